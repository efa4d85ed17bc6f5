import Derived.Test.YtmfmjngkbddenaaGreatDoorVsQtn
set_option linter.all false
namespace Go.Vs
noncomputable section
theorem Zqx {s:List UInt8}(h:s.length<=60):(Gl s).length=2+s.length:=by
 unfold Gl;rw[if_pos h,Kt,Ns]
theorem Zs7 {c:Bb}(h:c.2.length<=20):(Eg c).length<=23:=by
 unfold Eg;rw[Kf,Zqx (by omega)];omega
theorem Ytg {r:Row}(h:Bo r=true):(I8 r).length<=60:=by
 obtain⟨a,b,c,d,e,_⟩:=I9 h;have h1:=(O3 a).2;unfold I8;simp only[Kt,Kf];rw[Zqx (by omega)];have h2:(if r.2.2.2.1=2 then [] else Eg r.2.1).length<=23:=by
  split
  ·simp
  rename_i hn;exact Zs7 (Tw d hn).2.2.1
 have h3:(if r.2.2.2.1=1 then [] else Eg r.2.2.1).length<=23:=by
  split
  ·simp
  rename_i hn;exact Zs7 (Za5 e hn).2.2
 omega
theorem Ys3 {g p:Int}{r:Rec}(h:Cf r=true):(I5 g p r).length<=80:=by
 obtain⟨k,R,key,n,w,sq,cd⟩:=r;unfold Cf at h;simp only[Kd]at h;have hb:(H2 k R key n).length<=60:=by
  have h1:=h.1;unfold Fl at h1;unfold H2;split at h1
  ·rename_i hk;rw[if_pos hk];simp only[Kd]at h1;exact Ytg h1.1.1
  rename_i hk;rw[if_neg hk];split at h1
  ·rename_i hk2;rw[if_pos hk2];simp only[Kd]at h1;have:=(O3 h1.1.2).2;rw[Zqx (by omega)];omega
  rename_i hk2;rw[if_neg hk2];split<;>simp
 unfold I5;simp only[Kt,Kf,Ns];omega
theorem Yvs (t:List UInt8):(Rk t).length=t.length+2:=by unfold Rk;rw[Kt,Ns]
theorem Zhd (g p:Int) (r:Rec):(Ck g p r).length<=120:=by
 unfold Ck;split
 ·rename_i h;have:=Ys3 (g:=g) (p:=p) h.1;rw[Yvs];omega
 simp
theorem Zv9 (g n:Int):(D1 g n).length<=120:=by rw[Zwa];split<;>omega
def cw (g:Int) (rs:List Rec):Nat->List Wr
 | 0=>[]
 | i+1=>cw g rs i++[(Df g i,Ck g i (rs.getD i (Jw 0)))]
theorem Zlb {g:Int}{rs:List Rec}:∀i,(cw g rs i).length=i
 | 0=>rfl
 | i+1=>by simp [cw,Zlb i]
theorem Ztq {g:Int}{rs:List Rec}{D:Dv}(hu:UpD D) (hc:D.2.1=[]) (hl:D.1.length=62) (hg:0<=g) (hr:rs.length<=30):∀i,i<=rs.length->dAt g rs D i=(D.1,(cw g rs i,(-1,false)))
 | 0,_=>by
  obtain⟨a,b,c,d⟩:=D;obtain⟨h1,h2⟩:=hu;simp only at h1 h2 hc;subst h1 h2 hc;rfl
 | i+1,hi=>by
  show stp g rs (dAt g rs D i) i=_;rw[Ztq hu hc hl hg hr i (by omega)];unfold stp;simp only;have e:=Pg (g:=g) (j:=i) hg (by omega);have b:=Ri (g:=g) (j:=i) (by omega);have l:=Zhd g i (rs.getD i (Jw 0));have c:=Zlb (g:=g) (rs:=rs) i;rw[Rr (by rintro (h|h|h|h);cases h;(exact h (by rw[e,hl];omega));omega;omega) (by omega)];rfl
theorem Zvo (S:List (List UInt8)) (l:List Wr) (w:Wr):flL S (l++[w])=(flL S l).set w.1.toNat w.2:=by simp [flL]
theorem Zla {g:Int}{rs:List Rec}{S:List (List UInt8)}(hl:S.length=62) (hg:0<=g):∀i,i<=30->(∀j,j<i->(flL S (cw g rs i)).getD (sn g j) []=Ck g j (rs.getD j (Jw 0)))/\∀m,(∀j,j<i->m≠sn g j)->(flL S (cw g rs i)).getD m []=S.getD m []
 | 0,_=>⟨fun j hj=>by omega,fun m _=>rfl⟩
 | i+1,hi=>by
  obtain⟨a,b⟩:=Zla (g:=g) (rs:=rs) hl hg i (by omega);have e:(Df g (i:Int)).toNat=sn g i:=by rw[Pg hg (by omega)];rfl
  have hs:sn g i<(flL S (cw g rs i)).length:=by rw[S3,hl];exact Ri (by omega)
  constructor
  ·intro j hj;simp only[cw,Zvo,e];rw[Jl hs];by_cases k:j=i
   ·subst k;rw[if_pos rfl]
   rw[if_neg (fun h=>k (Zbt h)),a j (by omega)]
  intro m hm;simp only[cw,Zvo,e];rw[Jl hs,if_neg (hm i (by omega)),b m (fun j hj=>hm j (by omega))]
theorem Zxo {g:Int}{rs:List Rec}{D:Dv}(hu:UpD D) (hc:D.2.1=[]) (hl:D.1.length=62) (hg:0<=g) (hr:rs.length<=30):Cg g rs D=((flL D.1 (cw g rs rs.length)).set (hn g) (D1 g rs.length),([],(-1,false))):=by
 unfold Cg;simp only;rw[Ztq hu hc hl hg hr rs.length (Kc _)];simp only;rw[Oj (by omega)];simp only;have b:=V6 (g:=g);have l:=Zv9 g rs.length;rw[Zhj hg,show opF (-1)=-1 from rfl,Rr (by rintro (h|h|h|h);cases h;(exact h (by rw[S3,hl];omega));omega;simp at h) (by omega)];simp only;rw[show opF (-1)=-1 from rfl,Oj (by omega)];rfl
theorem Zny {D:Dv}{g:Int}{t:Tab}(hu:UpD D) (hc:D.2.1=[]) (hl:D.1.length=62) (ht:B7 t=true) (hg:1<=g/\g<=60000) (h1:∀j,(A8 t).length<=j->j<30->Lr (D.1.getD (sn g j) []) g) (h2:∀j,j<30->Lr (D.1.getD (sn (g+1) j) []) (g+1)) (h3:(Eo (D.1.getD (hn (g+1)) [])).2.2=true->(Eo (D.1.getD (hn (g+1)) [])).1<g) :
  Hold (Cg g (A8 t) D).1 g t (A8 t).length/\(Cg g (A8 t) D).2=([],(-1,false)):=by
 have hr:=W2 ht;rw[Zxo hu hc hl (by omega) (by omega)];obtain⟨a,b⟩:=Zla (g:=g) (rs:=A8 t) hl (by omega) (A8 t).length (by omega);have hh:hn g<(flL D.1 (cw g (A8 t) (A8 t).length)).length:=by rw[S3,hl];have:=V6 (g:=g);omega
 refine⟨⟨⟨by simp [hl],hg,ht,by omega,⟨Pb t,rfl,Ysp t, ?_⟩, ?_,⟨_,Kc _, ?_⟩, ?_⟩, ?_⟩,rfl⟩
 ·intro j hj;obtain⟨p1,p2⟩:=Zze ht j hj;refine⟨(A8 t)[j],p1, ?_, ?_⟩
  ·rw[Yet (Zzc ht j) p1 (by rw[p2];exact Zzc ht _),p2]
  rw[Jl hh,if_neg Uc,a j hj,Zmi hj]
 ·intro j hj hj2;simp only;rw[Jl hh,if_neg Uc,b _ (fun i hi h=>by have:=Zbt h;omega)];exact h1 j hj hj2
 ·simp only;rw[Jl hh,if_pos rfl]
 ·simp only;rw[Jl hh,if_neg Yow,b _ (fun i hi h=>Uc h.symm)];exact h3
 intro j hj;simp only;rw[Jl hh,if_neg Uc,b _ (fun i hi=>Zqf hj (by omega))];exact h2 j hj
theorem Zzk {S:List (List UInt8)}{g:Int}{t t':Tab}{p:Nat}{r:Rec}(H:Hold S g t p) (hp:p<30) (ha:Cj t r=(t',true)):Hold (S.set (sn g p) (Ck g p r)) g t' (p+1):=by
 have hl:=H.len;have hs:sn g p<S.length:=by rw[hl];exact Ri hp
 obtain⟨a1,a2,a3,a4⟩:=Yes (t:=t) (r:=r) (by rw[ha]);have e:G6 t r=t':=by rw[a1]at ha;exact congrArg Prod.fst ha
 obtain⟨T,h0,hT,hr⟩:=H.run;obtain⟨n,n1,n2⟩:=H.head;refine⟨⟨by simp [hl],H.gen,e ▸ a4,by omega,⟨fun j=>if j<=p then T j else t', ?_, ?_, ?_⟩, ?_,⟨n,by omega, ?_⟩, ?_⟩, ?_⟩
 ·simp only[Kda,if_true];exact h0
 ·simp only;rw[if_neg (by omega)]
 ·intro j hj;by_cases k:j=p
  ·subst k;refine⟨r,a3, ?_, ?_⟩
   ·simp only;rw[if_pos (Kc _),if_neg (by omega),hT,ha]
   rw[Jl hs,if_pos rfl]
  obtain⟨r',r1,r2,r3⟩:=hr j (by omega);refine⟨r',r1, ?_, ?_⟩
  ·simp only;rw[if_pos (by omega),if_pos (by omega),r2]
  rw[Jl hs,if_neg (fun h=>k (Zbt h)),r3]
 ·intro j hj hj2;rw[Jl hs,if_neg (fun h=>by have:=Zbt h;omega)];exact H.free j (by omega) hj2
 ·rw[Jl hs,if_neg (fun h=>Uc h.symm)];exact n2
 ·rw[Jl hs,if_neg (fun h=>Uc h.symm)];exact H.ohead
 intro j hj;rw[Jl hs,if_neg (Zqf hj hp)];exact H.oth j hj
structure HoldS (s:Bw):Prop where
 up:UpD s.1
 dev:dOk s.1=true
 cache:s.1.2.1=[]
 hold:∃p:Nat,s.2.2.2=(p:Int)/\Hold s.1.1 s.2.2.1 s.2.1 p
theorem Zwf {s:Bw}{p:Nat}(h:s.2.2.2=(p:Int)):s=(s.1,(s.2.1,(s.2.2.1,(p:Int)))):=by rw[<-h]
theorem Qw {s:Bw}(h:HoldS s):RightS s:=by
 obtain⟨p,e,H⟩:=h.hold;rw[Zwf e];exact Zf4 h.dev h.cache H.toCore
theorem Zms {d:Dv}{g:Int}{t:Tab}{p:Nat}(h:dOk d=true) (hd:d.2=([],(-1,false))) (H:Hold d.1 g t p):HoldS (d,(t,(g,(p:Int)))):=⟨⟨by simp only;rw[hd],by simp only;rw[hd]⟩,h,by simp only;rw[hd],p,rfl,H⟩
theorem Zwg {S:List (List UInt8)}{g:Int}{t:Tab}{p:Nat}(H:Core S g t p):(∀j,j<30->Lr (S.getD (sn (g+1+1) j) []) (g+1+1))/\((Eo (S.getD (hn (g+1+1)) [])).2.2=true->(Eo (S.getD (hn (g+1+1)) [])).1<g+1):=by
 have hp:=H.pl;have hg:=H.gen;constructor
 ·intro j hj;rw[Yvf];by_cases k:p<=j
  ·exact (H.free j k hj).mono (by omega)
  obtain⟨T,h0,hT,hr⟩:=H.run;obtain⟨r,r1,r2,r3⟩:=hr j (by omega);intro x hx;rw[r3,Zmj r1 (by omega) (by omega) (by omega) (by omega),Ka]at hx;subst hx;simp only;omega
 rw[Yox];obtain⟨n,n1,n2⟩:=H.head;rw[n2];have hk:K3 g n=true:=by unfold K3;rw[decide_eq_true hg,decide_eq_true (by omega)];rfl
 unfold D1;rw[if_pos hk,Zvx hk];intro _;simp only;omega
theorem Yq1 {s:Bw}(h:HoldS s) (hg:s.2.2.1<60000):HoldS (Gf s)/\(Gf s).2.1=s.2.1/\(Gf s).2.2.1=s.2.2.1+1/\(Gf s).2.2.2<=18:=by
 obtain⟨p,e,H⟩:=h.hold;have hr:=W2 H.tab;obtain⟨a,b⟩:=Zwg H.toCore;obtain⟨l1,l2⟩:=Zny (g:=s.2.2.1+1) h.up h.cache H.len H.tab (by have:=H.gen;omega) (fun j _ hj=>H.oth j hj) a b;have hk:=Th (g:=s.2.2.1+1) (rs:=A8 s.2.1) h.dev;have e2:Gf s=(Cg (s.2.2.1+1) (A8 s.2.1) s.1,(s.2.1,(s.2.2.1+1,((A8 s.2.1).length:Int)))):=by
  unfold Gf;rw[if_pos ⟨T2 (Qw h),h.up.1,by omega⟩,if_neg (by rw[l2];decide)]
 rw[e2];exact⟨Zms hk l2 l1,rfl,rfl,by simp only;omega⟩
theorem Ysr {s:Bw}{r:Rec}{t:Tab}(h:HoldS s) (hp:s.2.2.2<30) (ha:Cj s.2.1 r=(t,true)):HoldS (Fa s t r).1/\(Fa s t r).2=true/\(Fa s t r).1.2.1=t/\(Fa s t r).1.2.2.1=s.2.2.1:=by
 obtain⟨p,e,H⟩:=h.hold;have hg:=H.gen;have hk:=Zzh (r:=r) h.dev;have hl:=H.len;have l:=Zhd s.2.2.1 (p:Int) r;have b:=Ri (g:=s.2.2.1) (j:=p) (by omega);have e2:G8 s r=(s.1.1.set (sn s.2.2.1 p) (Ck s.2.2.1 p r),([],(-1,false))):=by
  unfold G8;rw[e,Pg (by omega) (by omega),h.up.1,h.up.2,h.cache,Rr (by rintro (h|h|h|h);cases h;(exact h (by rw[hl];omega));omega;simp at h) (by omega)];simp only;rw[show opF (-1)=-1 from rfl,Oj (by omega)];rfl
 rw[e2]at hk;have hh:=Zzk H (by omega) ha;unfold Fa;rw[if_neg (by rw[h.up.1];rintro (h|h);cases h;omega),e2,if_neg (by simp)];rw[e,Cz (by omega) (by omega),show (p:Int)+1=((p+1:Nat):Int) by omega];exact⟨Zms hk rfl hh,rfl,rfl,rfl⟩
theorem Yeg {s:Bw}{r:Rec}(h:HoldS s) (hg:s.2.2.1<60000):HoldS (Gr s r).1/\(Gr s r).1.2.2.1<=s.2.2.1+1/\(Gr s r).2=(Cj s.2.1 r).2/\(Gr s r).1.2.1=(Cj s.2.1 r).1:=by
 unfold Gr;have hs:=T2 (Qw h);cases ha:(Cj s.2.1 r).2 with
 | false =>
  rw[if_neg (by simp)];refine⟨h,by simp only;omega,rfl, ?_⟩;unfold Cj at ha ⊢;split
  ·rename_i hc;rw[if_pos hc]at ha;cases ha
  rfl
 | true =>
  rw[if_pos ⟨hs,h.up.1,rfl⟩];have hf:HoldS (D9 s)/\(D9 s).2.1=s.2.1/\(D9 s).2.2.1<=s.2.2.1+1/\(D9 s).2.2.2<30:=by
   unfold D9;split
   ·obtain⟨a,b,c,d⟩:=Yq1 h hg;exact⟨a,b,by omega,by omega⟩
   have:=(Qw h).place;exact⟨h,rfl,by omega,by omega⟩
  obtain⟨f1,f2,f3,f4⟩:=hf;obtain⟨a,b,c,d⟩:=Ysr (r:=r) (t:=(Cj s.2.1 r).1) f1 f4 (by rw[f2];exact Prod.ext rfl ha);exact⟨a,by omega,b,c⟩
theorem Zsl (n:Nat):(nwD 62).1.getD n []=[]:=by
 rw[Kld,show (nwD 62).1=List.replicate 62 [] from rfl,Keg];split<;>rfl
theorem Yj5:HoldS Vz/\Vz.2.2.1=1:=by
 have e0:Gz []=none:=by decide +kernel
 have st:∀n (g:Int),Lr ((nwD 62).1.getD n []) g:=fun n g x hx=>by rw[Zsl,e0]at hx;cases hx
 obtain⟨l1,l2⟩:=Zny (D:=nwD 62) (g:=1) (t:=Ij) Tj.2.1 rfl Tj.2.2 Uf (by omega) (fun j _ _=>st _ _) (fun j _=>st _ _) (fun h=>by rw[Zsl]at h;cases h);exact⟨Zms (Th Tj.1) l2 l1,rfl⟩
end
end Go.Vs
