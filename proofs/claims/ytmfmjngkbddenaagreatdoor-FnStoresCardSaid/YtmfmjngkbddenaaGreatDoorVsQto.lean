import Derived.Test.YtmfmjngkbddenaaGreatDoorVsW5
import Derived.Test.YtmfmjngkbddenaaGreatDoorVsQtn
set_option linter.all false
namespace Go.Vs
noncomputable section
theorem Zqe {s:List UInt8}(h:s.length<=60):(Gk s).length=2+s.length:=by
 unfold Gk;rw[if_pos h,Kt,Nq]
theorem Zsp {c:Ba}(h:c.2.length<=20):(Ee c).length<=23:=by
 unfold Ee;rw[Kf,Zqe (by omega)];omega
theorem Ysz {r:Row}(h:Bn r=true):(I6 r).length<=60:=by
 obtain⟨a,b,c,d,e,_⟩:=I7 h;have h1:=(O0 a).2;unfold I6;simp only[Kt,Kf];rw[Zqe (by omega)];have h2:(if r.2.2.2.1=2 then [] else Ee r.2.1).length<=23:=by
  split
  ·simp
  ·rename_i hn;exact Zsp (Ti d hn).2.2.1
 have h3:(if r.2.2.2.1=1 then [] else Ee r.2.2.1).length<=23:=by
  split
  ·simp
  ·rename_i hn;exact Zsp (Zav e hn).2.2
 omega
theorem Ysm {g p:Int}{r:Rec}(h:Cd r=true):(I2 g p r).length<=80:=by
 obtain⟨k,R,key,n,w,sq,cd⟩:=r;unfold Cd at h;simp only[Kd]at h;have hb:(Hz k R key n).length<=60:=by
  have h1:=h.1;unfold Fl at h1;unfold Hz;split at h1
  ·rename_i hk;rw[if_pos hk];simp only[Kd]at h1;exact Ysz h1.1.1
  ·rename_i hk;rw[if_neg hk];split at h1
   ·rename_i hk2;rw[if_pos hk2];simp only[Kd]at h1;have:=(O0 h1.1.2).2;rw[Zqe (by omega)];omega
   ·rename_i hk2;rw[if_neg hk2];split<;>simp
 unfold I2;simp only[Kt,Kf,Nq];omega
theorem Yvc (t:List UInt8):(Re t).length=t.length+2:=by unfold Re;rw[Kt,Nq]
theorem Zy5 (g p:Int) (r:Rec):(C7 g p r).length<=120:=by
 unfold C7;split
 ·rename_i h;have:=Ysm (g:=g) (p:=p) h.1;rw[Yvc];omega
 ·simp
theorem Yn9 (g n:Int):(Eo g n).length<=120:=by rw[Zvv];split<;>omega
def cw (g:Int) (rs:List Rec):Nat->List Wr
 | 0=>[]
 | i+1=>cw g rs i++[(Dt g i,C7 g i (rs.getD i (Pk 0)))]
theorem Zs9 {g:Int}{rs:List Rec}:∀i,(cw g rs i).length=i
 | 0=>rfl
 | i+1=>by simp [cw,Zs9 i]
theorem Zta {g:Int}{rs:List Rec}{D:Dv}(hu:UpD D) (hc:D.2.1=[]) (hl:D.1.length=62) (hg:0<=g) (hr:rs.length<=30):∀i,i<=rs.length->dAt g rs D i=(D.1,(cw g rs i,(-1,false)))
 | 0,_=>by
  obtain⟨a,b,c,d⟩:=D;obtain⟨h1,h2⟩:=hu;simp only at h1 h2 hc;subst h1 h2 hc;rfl
 | i+1,hi=>by
  show stp g rs (dAt g rs D i) i=_;rw[Zta hu hc hl hg hr i (by omega)];unfold stp;simp only;have e:=Zbg (g:=g) (j:=i) hg (by omega);have b:=W4 (g:=g) (j:=i) (by omega);have l:=Zy5 g i (rs.getD i (Pk 0));have c:=Zs9 (g:=g) (rs:=rs) i;rw[Zb9 (by rintro (h|h|h|h);cases h;(exact h (by rw[e,hl];omega));omega;omega) (by omega)];rfl
theorem Zu8 (S:List (List UInt8)) (l:List Wr) (w:Wr):flL S (l++[w])=(flL S l).set w.1.toNat w.2:=by simp [flL]
theorem Zs8 {g:Int}{rs:List Rec}{S:List (List UInt8)}(hl:S.length=62) (hg:0<=g):∀i,i<=30->(∀j,j<i->(flL S (cw g rs i)).getD (sn g j) []=C7 g j (rs.getD j (Pk 0)))/\∀m,(∀j,j<i->m≠sn g j)->(flL S (cw g rs i)).getD m []=S.getD m []
 | 0,_=>⟨fun j hj=>by omega,fun m _=>rfl⟩
 | i+1,hi=>by
  obtain⟨a,b⟩:=Zs8 (g:=g) (rs:=rs) hl hg i (by omega);have e:(Dt g (i:Int)).toNat=sn g i:=by rw[Zbg hg (by omega)];rfl
  have hs:sn g i<(flL S (cw g rs i)).length:=by rw[Zp,hl];exact W4 (by omega)
  constructor
  ·intro j hj;simp only[cw,Zu8,e];rw[Jk hs];by_cases k:j=i
   ·subst k;rw[if_pos rfl]
   ·rw[if_neg (fun h=>k (Zh3 h)),a j (by omega)]
  ·intro m hm;simp only[cw,Zu8,e];rw[Jk hs,if_neg (hm i (by omega)),b m (fun j hj=>hm j (by omega))]
theorem Yqh {g:Int}{rs:List Rec}{D:Dv}(hu:UpD D) (hc:D.2.1=[]) (hl:D.1.length=62) (hg:0<=g) (hr:rs.length<=30):D3 g rs D=((flL D.1 (cw g rs rs.length)).set (hn g) (Eo g rs.length),([],(-1,false))):=by
 unfold D3;simp only;rw[Zta hu hc hl hg hr rs.length (Kc _)];simp only;rw[Vn (by omega)];simp only;have b:=Zv (g:=g);have l:=Yn9 g rs.length;rw[Zo2 hg,show opF (-1)=-1 from rfl,Zb9 (by rintro (h|h|h|h);cases h;(exact h (by rw[Zp,hl];omega));omega;simp at h) (by omega)];simp only;rw[show opF (-1)=-1 from rfl,Vn (by omega)];rfl
theorem Zxc {D:Dv}{g:Int}{t:Tab}(hu:UpD D) (hc:D.2.1=[]) (hl:D.1.length=62) (ht:Ca t=true) (hg:1<=g/\g<=60000) (h1:∀j,j<30->N3 (D.1.getD (sn g j) []) g) (h2:∀j,j<30->N3 (D.1.getD (sn (g+1) j) []) (g+1)) (h3:(En (D.1.getD (hn (g+1)) [])).2.2=true->(En (D.1.getD (hn (g+1)) [])).1<g) :
  Hold (D3 g (C2 t) D).1 g t (C2 t).length/\(D3 g (C2 t) D).2=([],(-1,false)):=by
 have hr:=Zze ht;rw[Yqh hu hc hl (by omega) (by omega)];obtain⟨a,b⟩:=Zs8 (g:=g) (rs:=C2 t) hl (by omega) (C2 t).length (by omega);have hh:hn g<(flL D.1 (cw g (C2 t) (C2 t).length)).length:=by rw[Zp,hl];have:=Zv (g:=g);omega
 refine⟨⟨by simp [hl],hg,ht,by omega,⟨O7 t,rfl,Yr5 t, ?_⟩, ?_, ?_,⟨_,Kc _, ?_⟩, ?_⟩,rfl⟩
 ·intro j hj;obtain⟨p1,p2⟩:=Yr6 ht j hj;refine⟨(C2 t)[j],p1, ?_, ?_⟩
  ·rw[Yed (Zyz ht j) p1 (by rw[p2];exact Zyz ht _),p2]
  ·rw[Jk hh,if_neg W3,a j hj,Zvh hj]
 ·intro j hj hj2;simp only;rw[Jk hh,if_neg W3,b _ (fun i hi h=>by have:=Zh3 h;omega)];exact h1 j hj2
 ·intro j hj;simp only;rw[Jk hh,if_neg W3,b _ (fun i hi=>Ybh hj (by omega))];exact h2 j hj
 ·simp only;rw[Jk hh,if_pos rfl]
 ·simp only;rw[Jk hh,if_neg Yoe,b _ (fun i hi h=>W3 h.symm)];exact h3
theorem Ysa {S:List (List UInt8)}{g:Int}{t t':Tab}{p:Nat}{r:Rec}(H:Hold S g t p) (hp:p<30) (ha:Da t r=(t',true)):Hold (S.set (sn g p) (C7 g p r)) g t' (p+1):=by
 have hl:=H.len;have hs:sn g p<S.length:=by rw[hl];exact W4 hp
 obtain⟨a1,a2,a3,a4⟩:=Yec (t:=t) (r:=r) (by rw[ha]);have e:G4 t r=t':=by rw[a1]at ha;exact congrArg Prod.fst ha
 obtain⟨T,h0,hT,hr⟩:=H.run;obtain⟨n,n1,n2⟩:=H.head;refine⟨by simp [hl],H.gen,e ▸ a4,by omega,⟨fun j=>if j<=p then T j else t', ?_, ?_, ?_⟩, ?_, ?_,⟨n,by omega, ?_⟩, ?_⟩
 ·simp only[Kca,if_true];exact h0
 ·simp only;rw[if_neg (by omega)]
 ·intro j hj;by_cases k:j=p
  ·subst k;refine⟨r,a3, ?_, ?_⟩
   ·simp only;rw[if_pos (Kc _),if_neg (by omega),hT,ha]
   ·rw[Jk hs,if_pos rfl]
  ·obtain⟨r',r1,r2,r3⟩:=hr j (by omega);refine⟨r',r1, ?_, ?_⟩
   ·simp only;rw[if_pos (by omega),if_pos (by omega),r2]
   ·rw[Jk hs,if_neg (fun h=>k (Zh3 h)),r3]
 ·intro j hj hj2;rw[Jk hs,if_neg (fun h=>by have:=Zh3 h;omega)];exact H.free j (by omega) hj2
 ·intro j hj;rw[Jk hs,if_neg (Ybh hj hp)];exact H.oth j hj
 ·rw[Jk hs,if_neg (fun h=>W3 h.symm)];exact n2
 ·rw[Jk hs,if_neg (fun h=>W3 h.symm)];exact H.ohead
structure HoldS (s:Bv):Prop where
 up:UpD s.1
 dev:dOk s.1=true
 cache:s.1.2.1=[]
 hold:∃p:Nat,s.2.2.2=(p:Int)/\Hold s.1.1 s.2.2.1 s.2.1 p
theorem Zv0 {s:Bv}{p:Nat}(h:s.2.2.2=(p:Int)):s=(s.1,(s.2.1,(s.2.2.1,(p:Int)))):=by rw[<-h]
theorem Jo {s:Bv}(h:HoldS s):RightS s:=by
 obtain⟨p,e,H⟩:=h.hold;rw[Zv0 e];exact Zv4 h.dev h.cache H
theorem Zmc {d:Dv}{g:Int}{t:Tab}{p:Nat}(h:dOk d=true) (hd:d.2=([],(-1,false))) (H:Hold d.1 g t p):HoldS (d,(t,(g,(p:Int)))):=⟨⟨by simp only;rw[hd],by simp only;rw[hd]⟩,h,by simp only;rw[hd],p,rfl,H⟩
theorem Yok {S:List (List UInt8)}{g:Int}{t:Tab}{p:Nat}(H:Hold S g t p):(∀j,j<30->N3 (S.getD (sn (g+1+1) j) []) (g+1+1))/\((En (S.getD (hn (g+1+1)) [])).2.2=true->(En (S.getD (hn (g+1+1)) [])).1<g+1):=by
 have hp:=H.pl;have hg:=H.gen;constructor
 ·intro j hj;rw[Yuz];by_cases k:p<=j
  ·exact (H.free j k hj).mono (by omega)
  ·obtain⟨T,h0,hT,hr⟩:=H.run;obtain⟨r,r1,r2,r3⟩:=hr j (by omega);intro x hx;rw[r3,Zvj r1 (by omega) (by omega) (by omega) (by omega),Ka]at hx;subst hx;simp only;omega
 ·rw[Yof];obtain⟨n,n1,n2⟩:=H.head;rw[n2];have hk:K2 g n=true:=by unfold K2;rw[decide_eq_true hg,decide_eq_true (by omega)];rfl
  unfold Eo;rw[if_pos hk,Zvi hk];intro _;simp only;omega
theorem Zga {s:Bv}(h:HoldS s) (hg:s.2.2.1<60000):HoldS (H6 s)/\(H6 s).2.1=s.2.1/\(H6 s).2.2.1=s.2.2.1+1/\(H6 s).2.2.2<=18:=by
 obtain⟨p,e,H⟩:=h.hold;have hr:=Zze H.tab;obtain⟨a,b⟩:=Yok H;obtain⟨l1,l2⟩:=Zxc (g:=s.2.2.1+1) h.up h.cache H.len H.tab (by have:=H.gen;omega) H.oth a b;have hk:=Zf9 (g:=s.2.2.1+1) (rs:=C2 s.2.1) h.dev;have e2:H6 s=(D3 (s.2.2.1+1) (C2 s.2.1) s.1,(s.2.1,(s.2.2.1+1,((C2 s.2.1).length:Int)))):=by
  unfold H6;rw[if_pos ⟨Tn (Jo h),h.up.1,by omega⟩,if_neg (by rw[l2];decide)]
 rw[e2];exact⟨Zmc hk l2 l1,rfl,rfl,by simp only;omega⟩
theorem Yr9 {s:Bv}{r:Rec}{t:Tab}(h:HoldS s) (hp:s.2.2.2<30) (ha:Da s.2.1 r=(t,true)):HoldS (Me s t r).1/\(Me s t r).2=true/\(Me s t r).1.2.1=t/\(Me s t r).1.2.2.1=s.2.2.1:=by
 obtain⟨p,e,H⟩:=h.hold;have hg:=H.gen;have hk:=Yr7 (r:=r) h.dev;have hl:=H.len;have l:=Zy5 s.2.2.1 (p:Int) r;have b:=W4 (g:=s.2.2.1) (j:=p) (by omega);have e2:Lb s r=(s.1.1.set (sn s.2.2.1 p) (C7 s.2.2.1 p r),([],(-1,false))):=by
  unfold Lb;rw[e,Zbg (by omega) (by omega),h.up.1,h.up.2,h.cache,Zb9 (by rintro (h|h|h|h);cases h;(exact h (by rw[hl];omega));omega;simp at h) (by omega)];simp only;rw[show opF (-1)=-1 from rfl,Vn (by omega)];rfl
 rw[e2]at hk;have hh:=Ysa H (by omega) ha;unfold Me;rw[if_neg (by rw[h.up.1];rintro (h|h);cases h;omega),e2,if_neg (by simp)];rw[e,C0 (by omega) (by omega),show (p:Int)+1=((p+1:Nat):Int) by omega];exact⟨Zmc hk rfl hh,rfl,rfl,rfl⟩
theorem Zrm {s:Bv}{r:Rec}(h:HoldS s) (hg:s.2.2.1<60000):HoldS (J5 s r).1/\(J5 s r).1.2.2.1<=s.2.2.1+1/\(J5 s r).2=(Da s.2.1 r).2/\(J5 s r).1.2.1=(Da s.2.1 r).1:=by
 unfold J5;have hs:=Tn (Jo h);cases ha:(Da s.2.1 r).2 with
 | false =>
  rw[if_neg (by simp)];refine⟨h,by simp only;omega,rfl, ?_⟩;unfold Da at ha ⊢;split
  ·rename_i hc;rw[if_pos hc]at ha;cases ha
  ·rfl
 | true =>
  rw[if_pos ⟨hs,h.up.1,rfl⟩];have hf:HoldS (Eg s)/\(Eg s).2.1=s.2.1/\(Eg s).2.2.1<=s.2.2.1+1/\(Eg s).2.2.2<30:=by
   unfold Eg;split
   ·obtain⟨a,b,c,d⟩:=Zga h hg;exact⟨a,b,by omega,by omega⟩
   ·have:=(Jo h).place;exact⟨h,rfl,by omega,by omega⟩
  obtain⟨f1,f2,f3,f4⟩:=hf;obtain⟨a,b,c,d⟩:=Yr9 (r:=r) (t:=(Da s.2.1 r).1) f1 f4 (by rw[f2];exact Prod.ext rfl ha);exact⟨a,by omega,b,c⟩
theorem Zr3 (n:Nat):(nwD 62).1.getD n []=[]:=by
 rw[Kwe,show (nwD 62).1=List.replicate 62 [] from rfl,Keg];split<;>rfl
theorem Yjo:HoldS Vo/\Vo.2.2.1=1:=by
 have e0:Gx []=none:=by decide +kernel
 have st:∀n (g:Int),N3 ((nwD 62).1.getD n []) g:=fun n g x hx=>by rw[Zr3,e0]at hx;cases hx
 obtain⟨l1,l2⟩:=Zxc (D:=nwD 62) (g:=1) (t:=Ig) S8.2.1 rfl S8.2.2 T4 (by omega) (fun j _=>st _ _) (fun j _=>st _ _) (fun h=>by rw[Zr3]at h;cases h);exact⟨Zmc (Zf9 S8.1) l2 l1,rfl⟩
theorem Zv1 {s:Bv}(h:HoldS s) (n:Int):faD s.1 n=s.1:=by
 have hd:Cj s.1.1 s.1.2.1 s.1.2.2.1=true:=h.dev;unfold faD;rw[Zut hd,h.cache];obtain⟨⟨a,b,c,d⟩,e⟩:=s;have h1:=h.up;have h2:=h.cache;obtain⟨h1,h3⟩:=h1;simp only at h1 h2 h3;subst h1 h2 h3;rfl
theorem Zv2 {s:Bv}(h:HoldS s):Zal s.1=(H6 s,true):=by
 obtain⟨p,e,H⟩:=h.hold;rw[Yol h.dev h.cache H,<-Zv0 e]
theorem Yoh {s:Bv}(h:HoldS s):I4 s.1 s.2.2.1=(s.2.1,s.2.2.2):=by
 obtain⟨p,e,H⟩:=h.hold;rw[Zv3 h.dev h.cache H,e]
end
end Go.Vs
