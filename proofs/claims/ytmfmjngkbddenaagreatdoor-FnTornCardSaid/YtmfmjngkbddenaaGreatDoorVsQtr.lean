import Derived.Test.YtmfmjngkbddenaaGreatDoorVsQtq
set_option linter.all false
namespace Go.Vs
noncomputable section
theorem Yco {D:Dv}{g:Int}{t:Tab}{p:Nat}{f:Int}(hk:dOk D=true) (hd:D.2=([],(f,false))) (H:Weak D.1 g t p) (hg:g<60000) :
  (Ma D).2=true/\(Ma D).1.2.1=t/\dOk (Ma D).1.1=true/\(∀n,∃(g':Int) (p':Nat),g'<=g+1/\Weak (faD (Ma D).1.1 n).1 g' t p')/\(f=-1->(Ma D).1.1.2.2.2=false):=by
 have hc:D.2.1=[]:=by rw[hd]
 have hs:=Zf4 hk hc H.toCore;obtain⟨a,b⟩:=Zxq hk hd H hg;have ho:=Th (g:=g+1) (rs:=A8 t) hk;have e:Gf (D,(t,(g,(p:Int))))=(Cg (g+1) (A8 t) D,(t,if (Cg (g+1) (A8 t) D).2.2.2=true then (g,(p:Int)) else (g+1,((A8 t).length:Int)))):=by
  unfold Gf;rw[if_pos ⟨T2 hs,by simp only;rw[hd],by simp only;omega⟩]
 rw[Yo1 hk hc H.toCore,e];refine⟨rfl,rfl,ho,a,fun hf=>?_⟩;subst hf;exact (Zxp ⟨by rw[hd],by rw[hd]⟩).1
theorem Ycp {s:Bw}{r:Rec}{t:Tab}{p:Nat}{f:Int}(hk:dOk s.1=true) (hd:s.1.2=([],(f,false))) (hf:-1<=f/\f<=1000) (he:s.2.2.2=(p:Int)) (H:Hold s.1.1 s.2.2.1 s.2.1 p) (hp:p<30) (ha:Cj s.2.1 r=(t,true)) :
  ((Fa s t r).2=true->∀n,Weak (faD (Fa s t r).1.1 n).1 s.2.2.1 t (p+1))/\((Fa s t r).2=false->∀n,Weak (faD (Fa s t r).1.1 n).1 s.2.2.1 s.2.1 p\/Weak (faD (Fa s t r).1.1 n).1 s.2.2.1 t (p+1))/\dOk (Fa s t r).1.1=true:=by
 have hg:=H.gen;have hl:=H.len;have l:=Zhd s.2.2.1 (p:Int) r;have b:=Ri (g:=s.2.2.1) (j:=p) hp;have hq:=Zzh (r:=r) hk;have hh:=(Zzk H hp ha).weak;have no:¬(false=true\/¬(0<=(sn s.2.2.1 p:Int)/\(sn s.2.2.1 p:Int)<=(s.1.1.length:Int)-1)\/120<(Ck s.2.2.1 (p:Int) r).length\/40<=([]:List Wr).length):=by
  rintro (h|h|h|h)
  ·cases h
  ·exact h (by rw[hl];omega)
  ·omega
  simp at h
 have e0:G8 s r=flC s.1.1 (wrC s.1.1 [] f false (sn s.2.2.1 p:Int) (Ck s.2.2.1 (p:Int) r)).1 (wrC s.1.1 [] f false (sn s.2.2.1 p:Int) (Ck s.2.2.1 (p:Int) r)).2.1 (wrC s.1.1 [] f false (sn s.2.2.1 p:Int) (Ck s.2.2.1 (p:Int) r)).2.2:=by
  unfold G8;rw[he,Pg (by omega) hp,hd]
 have hS:Fa s t r=if (G8 s r).2.2.2=true then ((G8 s r,s.2),false) else ((G8 s r,(t,(s.2.2.1,Aj .i64 s.2.2.2 1))),true):=by
  unfold Fa;rw[if_neg (by rw[hd];simp only;rintro (h|h);cases h;omega)]
 rw[hS];by_cases h0:f=0
 ·rw[Zci no h0]at e0;simp only at e0;rw[Sz rfl]at e0;rw[e0]at hq ⊢;rw[if_pos rfl];refine⟨fun h=>(by cases h),fun _ n=>.inl ?_,hq⟩;simp only;rw[(Oi hq).2];exact H.weak
 rw[Rr no h0]at e0;simp only at e0;by_cases h1:opF f=0
 ·rw[Z1 h1]at e0;rw[e0]at hq ⊢;rw[if_pos rfl];refine⟨fun h=>(by cases h),fun _ n=>?_,hq⟩;simp only;rw[(Oi hq).2];simp only[Km,faL];split
  ·exact .inr hh
  exact .inl H.weak
 rw[Oj h1]at e0;rw[e0]at hq ⊢;rw[if_neg (by simp)];refine⟨fun _ n=>?_,fun h=>(by cases h),hq⟩;simp only;rw[(Oi hq).2];exact hh
theorem Ywc {s:Bw}{r:Rec}{p:Nat}{f:Int}(hk:dOk s.1=true) (hd:s.1.2=([],(f,false))) (hf:-1<=f/\f<=1000) (he:s.2.2.2=(p:Int)) (H:Hold s.1.1 s.2.2.1 s.2.1 p) (hg:s.2.2.1<50000) (n:Int) :
  ∃(g':Int) (p':Nat) (t:Tab),g'<=s.2.2.1+1/\Weak (faD (Gr s r).1.1 n).1 g' t p'/\dOk (Gr s r).1.1=true/\((Gr s r).2=true->(Cj s.2.1 r).2=true/\t=(Cj s.2.1 r).1)/\((Gr s r).2=false->t=s.2.1\/((Cj s.2.1 r).2=true/\t=(Cj s.2.1 r).1)):=by
 have hc:s.1.2.1=[]:=by rw[hd]
 have hS:RightS s:=by rw[Zwf he];exact Zf4 hk hc H.toCore
 unfold Gr;cases ha:(Cj s.2.1 r).2 with
 | false =>
  rw[if_neg (by simp)];refine⟨s.2.2.1,p,s.2.1,by omega, ?_,hk,fun h=>(by cases h),fun _=>.inl rfl⟩;simp only;rw[(Oi hk).2,hc];exact H.weak
 | true =>
  rw[if_pos ⟨T2 hS,by rw[hd],rfl⟩];have ha2:Cj s.2.1 r=((Cj s.2.1 r).1,true):=Prod.ext rfl ha;generalize (Cj s.2.1 r).1=t at ha2;have hp:=H.pl;unfold D9;by_cases h30:s.2.2.2=30
  ·rw[if_pos h30];obtain⟨a,b⟩:=Zxq hk hd H.weak (by omega);have ho:=Th (g:=s.2.2.1+1) (rs:=A8 s.2.1) hk;have hr:=W2 H.tab;have e:Gf s=(Cg (s.2.2.1+1) (A8 s.2.1) s.1,(s.2.1,if (Cg (s.2.2.1+1) (A8 s.2.1) s.1).2.2.2=true then s.2.2 else (s.2.2.1+1,((A8 s.2.1).length:Int)))):=by
    unfold Gf;rw[if_pos ⟨T2 hS,by rw[hd],by omega⟩]
   rw[e];cases hdn:(Cg (s.2.2.1+1) (A8 s.2.1) s.1).2.2.2 with
   | true =>
    unfold Fa;rw[if_pos (.inl hdn)];obtain⟨g',p',g1,w⟩:=a n;exact⟨g',p',s.2.1,g1,w,ho,fun h=>(by cases h),fun _=>.inl rfl⟩
   | false =>
    obtain⟨c,f',f1,c2⟩:=b hdn;rw[if_neg (by simp)];obtain⟨q1,q2,q3⟩:=Ycp (s:=(Cg (s.2.2.1+1) (A8 s.2.1) s.1,(s.2.1,(s.2.2.1+1,((A8 s.2.1).length:Int))))) (r:=r) (t:=t) (p:=(A8 s.2.1).length) ho c2 f1 rfl c (by omega) ha2;cases hq:(Fa (Cg (s.2.2.1+1) (A8 s.2.1) s.1,(s.2.1,(s.2.2.1+1,((A8 s.2.1).length:Int)))) t r).2 with
    | true=>exact⟨s.2.2.1+1,_,t,Koc _,q1 hq n,q3,fun _=>⟨rfl,rfl⟩,fun h=>(by cases h)⟩
    | false =>
     rcases q2 hq n with w|w
     ·exact⟨s.2.2.1+1,_,s.2.1,Koc _,w,q3,fun h=>(by cases h),fun _=>.inl rfl⟩
     exact⟨s.2.2.1+1,_,t,Koc _,w,q3,fun h=>(by cases h),fun _=>.inr ⟨rfl,rfl⟩⟩
  rw[if_neg h30];obtain⟨q1,q2,q3⟩:=Ycp (s:=s) (r:=r) (t:=t) hk hd hf he H (by omega) ha2;cases hq:(Fa s t r).2 with
  | true=>exact⟨s.2.2.1,_,t,by omega,q1 hq n,q3,fun _=>⟨rfl,rfl⟩,fun h=>(by cases h)⟩
  | false =>
   rcases q2 hq n with w|w
   ·exact⟨s.2.2.1,_,s.2.1,by omega,w,q3,fun h=>(by cases h),fun _=>.inl rfl⟩
   exact⟨s.2.2.1,_,t,by omega,w,q3,fun h=>(by cases h),fun _=>.inr ⟨rfl,rfl⟩⟩
end
end Go.Vs
