import Derived.Test.YtmfmjngkbddenaaGreatDoorVsW5
import Derived.Test.YtmfmjngkbddenaaGreatDoorVsQt5
set_option linter.all false
namespace Go.Vs
noncomputable section
theorem Zgj {r:Row}(h:r.2.2.2.1=1):Tq r=Bx r.2.1:=by unfold Tq;rw[h,if_neg (by decide +kernel)]
theorem Zx1 {r:Row}(h:r.2.2.2.1=2):Tq r=Bx r.2.2.1:=by unfold Tq;rw[h,if_pos (by decide +kernel)]
theorem Zn0 {r:Row}(h:r.2.2.2.1=3):Tq r=Bx r.2.2.1:=by unfold Tq;rw[h,if_pos (by decide +kernel)]
theorem Yax {a b:Ba}{t:List UInt8}(h:Bx a=some t) (k:Bx b=some t):Jt a b=true:=by unfold Jt;rw[h,k];simp
theorem Yrn {a b:Ba}(h:Jt a b=true):∃t,Bx a=some t/\Bx b=some t:=by
 unfold Jt at h;cases ha:Bx a with
 | none=>rw[ha]at h;cases h
 | some x =>
  cases hb:Bx b with
  | none=>rw[ha,hb]at h;cases h
  | some y =>
   rw[ha,hb]at h;simp only[beq_iff_eq]at h;subst h;exact⟨x,rfl,rfl⟩
theorem Ra {key:List UInt8}{o n:Ba}{has:Int}{aside:Bool}(h1:Ej key=true) (h2:1<=has/\has<=3) (h3:Fp o has aside=true) (h4:Gh n has=true) (h5:has=3->Jt o n=true):Bn (key,o,n,has,aside)=true:=by
 unfold Bn;simp only[h1,h3,h4,Kec,Kxd,decide_eq_true h2];by_cases e:has=3
 ·rw[h5 e,Krf]
 ·simp [e]
theorem Wh {o:Ba}{has:Int}{aside:Bool}(h:has≠2) (h1:1<=o.1/\o.1<=5) (h2:o.2.length<=20) (h3:(Bx o).isSome=true\/(aside=true/\has=1)):Fp o has aside=true:=by
 unfold Fp;rw[if_neg h,decide_eq_true h1,decide_eq_true h2];rcases h3 with h3|⟨h3,h4⟩
 ·rw[h3];rfl
 ·rw[h3,h4];simp
theorem Zyh {aside:Bool}:Fp Xk 2 aside=true:=rfl
theorem Zn3:Gh Xk 1=true:=rfl
theorem Zn2 {n:Ba}{has:Int}(h:has≠1) (h1:n.1=0) (h2:(Bx n).isSome=true):Gh n has=true:=by
 unfold Gh;rw[if_neg h,h1,h2];rfl
structure SaysR (key:List UInt8) (t:Option (List UInt8)) (r:Row):Prop where
 ok:Bn r=true
 text:Tq r=t
 key:r.1=key
theorem Ywj {c:Ba}:(∃d,Rj c 0=(d,false)/\d=c)\/∃d t,Rj c 0=(d,true)/\Bx c=some t/\Bx d=some t/\d.1=0:=by
 unfold Rj;cases h1:Bx c with
 | none=>exact .inl ⟨c,rfl,rfl⟩
 | some t =>
  cases h2:Di 0 t with
  | none=>exact .inl ⟨c,by simp only[h2],rfl⟩
  | some d=>exact .inr ⟨d,t,by simp only[h2],rfl,(Zia h2).1,(Zia h2).2⟩
theorem Yui {key:List UInt8}{t:Option (List UInt8)}{r:Row}(h:SaysR key t r):SaysR key t (Zfk r):=by
 obtain⟨k,o,n,has,aside⟩:=r;obtain⟨h1,h2,h3⟩:=h;simp only at h3;subst h3;unfold Zfk;simp only;by_cases e:has=1
 case neg=>rw[if_neg (fun h=>e h.2)];exact⟨h1,h2,rfl⟩
 subst e;rw[if_pos ⟨h1,rfl⟩];obtain⟨g1,_,_,g4,g5,_⟩:=I7 h1;simp only at g1 g4 g5;rw[Zgj rfl]at h2;simp only at h2;obtain⟨q1,q2,q3,q4⟩:=Ti g4 (by decide);rcases Ywj (c:=o) with ⟨d,hd,rfl⟩|⟨d,u,hd,hu,hv,hz⟩
 ·rw[hd];exact⟨Ra g1 (by decide) (Wh (by decide) ⟨q1,q2⟩ q3 (.inr ⟨rfl,rfl⟩)) g5 (fun h=>by cases h),by rw[Zgj rfl];exact h2,rfl⟩
 ·rw[hd];exact⟨Ra g1 (by decide) (Wh (by decide) ⟨q1,q2⟩ q3 (.inl (by rw[hu];rfl))) (Zn2 (by decide) hz (by rw[hv];rfl)) (fun _=>Yax hu hv),by rw[Zn0 rfl];simp only;rw[hv,<-hu];exact h2,rfl⟩
theorem Yuh {key:List UInt8}{t:Option (List UInt8)}{r:Row}(h:SaysR key t r):SaysR key t (Zd9 r):=by
 obtain⟨k,o,n,has,aside⟩:=r;obtain⟨h1,h2,h3⟩:=h;simp only at h3;subst h3;unfold Zd9;simp only;rw[if_pos h1];obtain⟨g1,l1,l2,g4,g5,g6⟩:=I7 h1;simp only at g1 l1 l2 g4 g5 g6;by_cases e:has=3
 ·subst e;rw[if_pos rfl];obtain⟨q1,q2,q3,q4⟩:=Ti g4 (by decide);obtain⟨u,hu,hv⟩:=Yrn (g6 rfl);rw[Zn0 rfl]at h2;simp only at h2;exact⟨Ra g1 (by decide) (Wh (by decide) ⟨q1,q2⟩ q3 (.inl (by rw[hu];rfl))) Zn3 (fun h=>by cases h),by rw[Zgj rfl];simp only;rw[hu,<-hv];exact h2,rfl⟩
 rw[if_neg e];by_cases e2:has=2
 ·subst e2;rw[if_pos rfl];have hz:o=Xk:=by
   have:Fp o 2 aside=Ey o:=by unfold Fp;rw[if_pos rfl]
   rw[this]at g4;exact Q4 g4
  subst hz;exact⟨Ra g1 (by decide) Zyh g5 (fun h=>by cases h),by rw[Zx1 rfl]at h2 ⊢;exact h2,rfl⟩
 ·rw[if_neg e2];exact⟨h1,h2,rfl⟩
theorem Zn8 {r:Row}(h:Bn r=true):smR 100 r:=by
 obtain⟨k,o,n,has,aside⟩:=r;obtain⟨g1,l1,l2,g4,g5,g6⟩:=I7 h;simp only at g1 l1 l2 g4 g5 g6;refine⟨by have:=(O0 g1).2;simp only;omega, ?_, ?_⟩
 ·by_cases e:has=2
  ·subst e;have:Fp o 2 aside=Ey o:=by unfold Fp;rw[if_pos rfl]
   rw[this]at g4;rw[Q4 g4];simp
  ·have:=(Ti g4 e).2.2.1;simp only;omega
 ·by_cases e:has=1
  ·subst e;have:Gh n 1=Ey n:=by unfold Gh;rw[if_pos rfl]
   rw[this]at g5;rw[Q4 g5];simp
  ·have:=(Zav g5 e).2.2;simp only;omega
theorem Zyg {r:Row}(h:Bn r=true):smR 1048576 r:=(Zn8 h).mono (by omega)
theorem Zkj {cs:Int}{t:List UInt8}{c:Ba}(h:Di cs t=some c):c.1=cs/\c.2.length<=20/\Bx c=some t:=by
 have:=Ye1 cs t;rw[h]at this;exact⟨(Zia h).2,this,(Zia h).1⟩
theorem Zo9 {ph cs:Int}{key t:List UInt8}(h:(Ng ph key cs t).2=0):SaysR key (some t) (Ng ph key cs t).1:=by
 unfold Ng at h ⊢;split at h
 case isFalse=>cases h
 rename_i hc;obtain⟨hp,hk,hcs⟩:=hc;rw[if_pos ⟨hp,hk,hcs⟩];cases hn:Di 0 t with
 | none=>rw[hn]at h;cases h
 | some n =>
  obtain⟨n1,n2,n3⟩:=Zkj hn;simp only[hn]at h ⊢;have hN:∀a:Bool,SaysR key (some t) (key,Xk,n,2,a):=fun a =>
   ⟨Ra hk (by decide) Zyh (Zn2 (by decide) n1 (by rw[n3];rfl)) (fun h=>by cases h),by rw[Zx1 rfl];exact n3,rfl⟩
  have hO:∀o,Di cs t=some o->SaysR key (some t) (key,o,Xk,1,false):=fun o ho=>by
   obtain⟨o1,o2,o3⟩:=Zkj ho;exact⟨Ra hk (by decide) (Wh (by decide) (by omega) o2 (.inl (by rw[o3];rfl))) Zn3 (fun h=>by cases h),by rw[Zgj rfl];exact o3,rfl⟩
  have hB:∀o,Di cs t=some o->SaysR key (some t) (key,o,n,3,false):=fun o ho=>by
   obtain⟨o1,o2,o3⟩:=Zkj ho;exact⟨Ra hk (by decide) (Wh (by decide) (by omega) o2 (.inl (by rw[o3];rfl))) (Zn2 (by decide) n1 (by rw[n3];rfl)) (fun _=>Yax o3 n3),by rw[Zn0 rfl];exact n3,rfl⟩
  cases ho:Di cs t with
  | none =>
   simp only[ho]at h ⊢;split
   ·rename_i hq;rw[if_pos hq]at h;cases h
   split
   ·exact hN _
   split
   ·exact hN _
   ·exact hN _
  | some o =>
   simp only[ho]at h ⊢;split
   ·exact hO o ho
   split
   ·exact hN _
   split
   ·exact hO o ho
   ·exact hB o ho
theorem Zzw {ph cs:Int}{key t:List UInt8}{n:Ba}(hp:0<=ph/\ph<=7) (hk:Ej key=true) (hc:1<=cs/\cs<=5) (hn:Di 0 t=some n) (h:(∃o,Di cs t=some o)\/(ph≠0/\ph≠7)):(Ng ph key cs t).2=0:=by
 unfold Ng;rw[if_pos ⟨hp,hk,hc⟩,hn];simp only;rcases h with ⟨o,ho⟩|⟨h1,h2⟩
 ·simp only[ho]
  repeat' split
  all_goals rfl
 ·rw[if_neg (by omega)];cases Di cs t<;>(repeat' split)<;>rfl
theorem Zy2 {cs:Nat}:∀{ns:List Nat},(∀n∈ns,∃b,E3 cs n=some b)->∃l,Ek cs ns=some l
 | [],_=>⟨[],rfl⟩
 | n::ns,h=>by
  obtain⟨b,hb⟩:=h n (by simp);obtain⟨l,hl⟩:=Zy2 fun m hm=>h m (Km _ hm);exact⟨b++l,by simp only[Ek,hb,hl]⟩
theorem Zki {cs:Int}{ns:List Nat}(hc:0<=cs/\cs<=5) (hn:∀n∈ns,Cb n=true/\∃b,E3 cs.toNat n=some b) (hl:ns.length<=5):∃c,Di cs (E6 ns)=some c:=by
 obtain⟨b,hb⟩:=Zy2 (cs:=cs.toNat) fun n h=>(hn n h).2;have he:Mu cs (E6 ns)=some b:=by
  unfold Mu Zk;rw[if_pos hc,Zps (cs:=0) (by omega) (Zor fun n h=>(hn n h).1)];exact hb
 have hlen:=Zy1 (cs:=cs.toNat) (by omega) hb;unfold Di;rw[he];simp only;rw[if_pos (by omega)];exact⟨_,rfl⟩
theorem Yp6 {b:List UInt8}{s:Cs}(hb:B20 b) (hs:0<=s.1):∃(v:Int) (s':Cs),Zc8 (b,s)=some (v,s')/\(1<=v/\v<=5)/\0<=s'.1:=by
 unfold Zc8;obtain⟨v,s',e,h1,_,k⟩:=Iy (s:=(s.1,s.2)) 5 hb hs;have h1:=h1 (by omega);simp only[e,Aa];rw[C0 (by omega) (by omega)];exact⟨_,_,rfl,by omega,k⟩
theorem Zw7 {b:List UInt8}{s:Cs}(hb:B20 b) (hs:0<=s.1):∃(v:List UInt8) (s':Cs),Yj (b,s)=some (v,s')/\Ej v=true/\0<=s'.1:=by
 unfold Yj;obtain⟨v,s',e,h1,k⟩:=Yp3 (s:=(s.1,s.2)) [[97],[98],[99],[100],[101,53]] hb hs (by simp);simp only[e,Aa];have:([[97],[98],[99],[100],[101,53]]:List (List UInt8)).all Ej=true:=by decide +kernel
 exact⟨_,_,rfl,Kna.1 this v h1,k⟩
theorem Yp8 {b:List UInt8}{s:Cs}(hb:B20 b) (hs:0<=s.1):∃(r:Row) (s':Cs),Zdb (b,s)=some (r,s')/\Bn r=true/\0<=s'.1:=by
 unfold Zdb;obtain⟨cs,s1,e1,l1,k1⟩:=Yp6 (s:=(s.1,s.2)) hb hs;simp only[e1,Aa];obtain⟨name,s2,e2,l2,k2⟩:=Zw7 (s:=(s1.1,s1.2)) hb k1;have hname:name.length<9223372036854775807:=by have:=(O0 l2).2;omega
 simp only[e2,Aa];obtain⟨v3,s3,e3,_,_,k3⟩:=Iy (s:=(s2.1,s2.2)) 6 hb k2;simp only[e3,Aa,E9];by_cases c0:(v3:Int)=0
 ·rw[decide_eq_true c0,Ad];refine⟨_,_,rfl, ?_,k3⟩;exact Ra l2 (by decide) (Wh (by decide) (by decide) (by decide) (.inr ⟨rfl,rfl⟩)) Zn3 (fun h=>by cases h)
 rw[decide_eq_false c0,Ac];have tot:∀{ns:List Nat} {c:Int},(∀n∈ns,Yo c n)->ns.length<=5->∃d,Di 0 (E6 ns)=some d:=fun h hl=>Zki (by omega) (fun n hn=>⟨(h n hn).1,_,Zot (h n hn).1⟩) hl;by_cases c1:(v3:Int)=1
 ·rw[decide_eq_true c1,Ad];obtain⟨ns,s4,e4,l4,g4,k4⟩:=Zw8 (s:=(s3.1,s3.2)) cs 5 hb k3 (by omega);have hl:=Zbq ns;simp only[show ((5:Nat):Int)=5 from rfl]at e4;simp only[e4,Aa];rw[Zpj hname (by omega),Aa];obtain⟨d,hd⟩:=tot g4 l4;obtain⟨o,ho⟩:=Zki (cs:=cs) (by omega) (fun n hn=>⟨(g4 n hn).1,(g4 n hn).2 (by omega) (by omega)⟩) l4;exact⟨_,_,rfl,(Zo9 (Zzw (by decide) l2 l1 hd (.inl ⟨o,ho⟩))).ok,k4⟩
 rw[decide_eq_false c1,Ac];obtain⟨v4,s4,e4,l4,_,k4⟩:=Iy (s:=(s3.1,s3.2)) 8 hb k3;have l4:=l4 (by omega);simp only[e4,Aa];obtain⟨v5,s5,e5,_,k5⟩:=V7 (s:=(s4.1,s4.2)) [cs,cs,cs,0] hb k4 (by simp);simp only[e5,Aa];obtain⟨ns,s6,e6,l6,g6,k6⟩:=Zw8 (s:=(s5.1,s5.2)) v5 5 hb k5 (by omega);have hl:=Zbq ns;simp only[show ((5:Nat):Int)=5 from rfl]at e6;simp only[e6,Aa];rw[Zpj hname (by omega),Aa];obtain⟨d,hd⟩:=tot g6 l6;have fin:∀(r:Row),Bn r=true->∃(r':Row) (s':Cs),(bnd (D5 ((b,(s6.1,s6.2)),5)) (fun z9=>(cnd (iEq z9.1 0) (bnd (X6 r) (fun z10=>(some (z10,(z9.2.1,z9.2.2))))) (cnd (iEq z9.1 1) (bnd (X5 r) (fun z10=>(some (z10,(z9.2.1,z9.2.2))))) (some (r,(z9.2.1,z9.2.2)))))))=some (r',s')/\Bn r'=true/\0<=s'.1:=by
  intro r hr;obtain⟨v9,s9,e9,_,_,k9⟩:=Iy (s:=(s6.1,s6.2)) 5 hb k6;simp only[e9,Aa,E9];by_cases d0:(v9:Int)=0
  ·rw[decide_eq_true d0,Ad,Yti (Zyg hr),Aa];exact⟨_,_,rfl,(Yui (t:=_) ⟨hr,rfl,rfl⟩).ok,k9⟩
  rw[decide_eq_false d0,Ac];by_cases d1:(v9:Int)=1
  ·rw[decide_eq_true d1,Ad,Ytd (Zyg hr),Aa];exact⟨_,_,rfl,(Yuh (t:=_) ⟨hr,rfl,rfl⟩).ok,k9⟩
  ·rw[decide_eq_false d1,Ac];exact⟨_,_,rfl,hr,k9⟩
 have h120:E6 [120]=[120]:=by decide
 obtain⟨d2,hd2⟩:=Zki (cs:=0) (ns:=[120]) (by omega) (fun n hn=>by simp only[Kpa]at hn;subst hn;exact⟨by decide,_,Zot (by decide)⟩) (by simp);rw[h120]at hd2;by_cases hg:(Ng (v4:Int) name cs (E6 ns)).2=0
 ·rw[hg,Om,Ac,Ar];exact fin (Ng (v4:Int) name cs (E6 ns)).1 (Zo9 hg).ok
 ·rw[Iw hg,Ad,Zpj hname (by simp),Aa,Ar];exact fin (Ng 5 name cs [120]).1 (Zo9 (Zzw (by decide) l2 l1 hd2 (.inr (by decide)))).ok
end
end Go.Vs
