import Derived.Test.YtmfmjngkbddenaaGreatDoorVsQt5
set_option linter.all false
namespace Go.Vs
noncomputable section
theorem Zgs {r:Row}(h:r.2.2.2.1=1):T3 r=Bz r.2.1:=by unfold T3;rw[h,if_neg (by decide +kernel)]
theorem Zyg {r:Row}(h:r.2.2.2.1=2):T3 r=Bz r.2.2.1:=by unfold T3;rw[h,if_pos (by decide +kernel)]
theorem Zoh {r:Row}(h:r.2.2.2.1=3):T3 r=Bz r.2.2.1:=by unfold T3;rw[h,if_pos (by decide +kernel)]
theorem Ybb {a b:Bb}{t:List UInt8}(h:Bz a=some t) (k:Bz b=some t):Ju a b=true:=by unfold Ju;rw[h,k];simp
theorem Yr7 {a b:Bb}(h:Ju a b=true):∃t,Bz a=some t/\Bz b=some t:=by
 unfold Ju at h;cases ha:Bz a with
 | none=>rw[ha]at h;cases h
 | some x =>
  cases hb:Bz b with
  | none=>rw[ha,hb]at h;cases h
  | some y =>
   rw[ha,hb]at h;simp only[beq_iff_eq]at h;subst h;exact⟨x,rfl,rfl⟩
theorem Rg {key:List UInt8}{o n:Bb}{has:Int}{aside:Bool}(h1:Ek key=true) (h2:1<=has/\has<=3) (h3:Fp o has aside=true) (h4:Gi n has=true) (h5:has=3->Ju o n=true):Bo (key,o,n,has,aside)=true:=by
 unfold Bo;simp only[h1,h3,h4,Kec,Kyd,decide_eq_true h2];by_cases e:has=3
 ·rw[h5 e,Krf]
 simp [e]
theorem Ws {o:Bb}{has:Int}{aside:Bool}(h:has≠2) (h1:1<=o.1/\o.1<=5) (h2:o.2.length<=20) (h3:(Bz o).isSome=true\/(aside=true/\has=1)):Fp o has aside=true:=by
 unfold Fp;rw[if_neg h,decide_eq_true h1,decide_eq_true h2];rcases h3 with h3|⟨h3,h4⟩
 ·rw[h3];rfl
 rw[h3,h4];simp
theorem Zyv {aside:Bool}:Fp Xv 2 aside=true:=rfl
theorem Zok:Gi Xv 1=true:=rfl
theorem Zoj {n:Bb}{has:Int}(h:has≠1) (h1:n.1=0) (h2:(Bz n).isSome=true):Gi n has=true:=by
 unfold Gi;rw[if_neg h,h1,h2];rfl
structure SaysR (key:List UInt8) (t:Option (List UInt8)) (r:Row):Prop where
 ok:Bo r=true
 text:T3 r=t
 key:r.1=key
theorem Yw0 {c:Bb}:(∃d,Rp c 0=(d,false)/\d=c)\/∃d t,Rp c 0=(d,true)/\Bz c=some t/\Bz d=some t/\d.1=0:=by
 unfold Rp;cases h1:Bz c with
 | none=>exact .inl ⟨c,rfl,rfl⟩
 | some t =>
  cases h2:Dm 0 t with
  | none=>exact .inl ⟨c,by simp only[h2],rfl⟩
  | some d=>exact .inr ⟨d,t,by simp only[h2],rfl,(Zil h2).1,(Zil h2).2⟩
theorem Yuy {key:List UInt8}{t:Option (List UInt8)}{r:Row}(h:SaysR key t r):SaysR key t (Zft r):=by
 obtain⟨k,o,n,has,aside⟩:=r;obtain⟨h1,h2,h3⟩:=h;simp only at h3;subst h3;unfold Zft;simp only;by_cases e:has=1
 case neg=>rw[if_neg (fun h=>e h.2)];exact⟨h1,h2,rfl⟩
 subst e;rw[if_pos ⟨h1,rfl⟩];obtain⟨g1,_,_,g4,g5,_⟩:=I9 h1;simp only at g1 g4 g5;rw[Zgs rfl]at h2;simp only at h2;obtain⟨q1,q2,q3,q4⟩:=Tw g4 (by decide);rcases Yw0 (c:=o) with ⟨d,hd,rfl⟩|⟨d,u,hd,hu,hv,hz⟩
 ·rw[hd];exact⟨Rg g1 (by decide) (Ws (by decide) ⟨q1,q2⟩ q3 (.inr ⟨rfl,rfl⟩)) g5 (fun h=>by cases h),by rw[Zgs rfl];exact h2,rfl⟩
 rw[hd];exact⟨Rg g1 (by decide) (Ws (by decide) ⟨q1,q2⟩ q3 (.inl (by rw[hu];rfl))) (Zoj (by decide) hz (by rw[hv];rfl)) (fun _=>Ybb hu hv),by rw[Zoh rfl];simp only;rw[hv,<-hu];exact h2,rfl⟩
theorem Yux {key:List UInt8}{t:Option (List UInt8)}{r:Row}(h:SaysR key t r):SaysR key t (Zej r):=by
 obtain⟨k,o,n,has,aside⟩:=r;obtain⟨h1,h2,h3⟩:=h;simp only at h3;subst h3;unfold Zej;simp only;rw[if_pos h1];obtain⟨g1,l1,l2,g4,g5,g6⟩:=I9 h1;simp only at g1 l1 l2 g4 g5 g6;by_cases e:has=3
 ·subst e;rw[if_pos rfl];obtain⟨q1,q2,q3,q4⟩:=Tw g4 (by decide);obtain⟨u,hu,hv⟩:=Yr7 (g6 rfl);rw[Zoh rfl]at h2;simp only at h2;exact⟨Rg g1 (by decide) (Ws (by decide) ⟨q1,q2⟩ q3 (.inl (by rw[hu];rfl))) Zok (fun h=>by cases h),by rw[Zgs rfl];simp only;rw[hu,<-hv];exact h2,rfl⟩
 rw[if_neg e];by_cases e2:has=2
 ·subst e2;rw[if_pos rfl];have hz:o=Xv:=by
   have:Fp o 2 aside=Ex o:=by unfold Fp;rw[if_pos rfl]
   rw[this]at g4;exact Q9 g4
  subst hz;exact⟨Rg g1 (by decide) Zyv g5 (fun h=>by cases h),by rw[Zyg rfl]at h2 ⊢;exact h2,rfl⟩
 rw[if_neg e2];exact⟨h1,h2,rfl⟩
theorem Zoq {r:Row}(h:Bo r=true):smR 100 r:=by
 obtain⟨k,o,n,has,aside⟩:=r;obtain⟨g1,l1,l2,g4,g5,g6⟩:=I9 h;simp only at g1 l1 l2 g4 g5 g6;refine⟨by have:=(O3 g1).2;simp only;omega, ?_, ?_⟩
 ·by_cases e:has=2
  ·subst e;have:Fp o 2 aside=Ex o:=by unfold Fp;rw[if_pos rfl]
   rw[this]at g4;rw[Q9 g4];simp
  have:=(Tw g4 e).2.2.1;simp only;omega
 by_cases e:has=1
 ·subst e;have:Gi n 1=Ex n:=by unfold Gi;rw[if_pos rfl]
  rw[this]at g5;rw[Q9 g5];simp
 have:=(Za5 g5 e).2.2;simp only;omega
theorem Zyu {r:Row}(h:Bo r=true):smR 1048576 r:=(Zoq h).mono (by omega)
theorem Zku {cs:Int}{t:List UInt8}{c:Bb}(h:Dm cs t=some c):c.1=cs/\c.2.length<=20/\Bz c=some t:=by
 have:=Yfg cs t;rw[h]at this;exact⟨(Zil h).2,this,(Zil h).1⟩
theorem Zpq {ph cs:Int}{key t:List UInt8}(h:(Ni ph key cs t).2=0):SaysR key (some t) (Ni ph key cs t).1:=by
 unfold Ni at h ⊢;split at h
 case isFalse=>cases h
 rename_i hc;obtain⟨hp,hk,hcs⟩:=hc;rw[if_pos ⟨hp,hk,hcs⟩];cases hn:Dm 0 t with
 | none=>rw[hn]at h;cases h
 | some n =>
  obtain⟨n1,n2,n3⟩:=Zku hn;simp only[hn]at h ⊢;have hN:∀a:Bool,SaysR key (some t) (key,Xv,n,2,a):=fun a =>
   ⟨Rg hk (by decide) Zyv (Zoj (by decide) n1 (by rw[n3];rfl)) (fun h=>by cases h),by rw[Zyg rfl];exact n3,rfl⟩
  have hO:∀o,Dm cs t=some o->SaysR key (some t) (key,o,Xv,1,false):=fun o ho=>by
   obtain⟨o1,o2,o3⟩:=Zku ho;exact⟨Rg hk (by decide) (Ws (by decide) (by omega) o2 (.inl (by rw[o3];rfl))) Zok (fun h=>by cases h),by rw[Zgs rfl];exact o3,rfl⟩
  have hB:∀o,Dm cs t=some o->SaysR key (some t) (key,o,n,3,false):=fun o ho=>by
   obtain⟨o1,o2,o3⟩:=Zku ho;exact⟨Rg hk (by decide) (Ws (by decide) (by omega) o2 (.inl (by rw[o3];rfl))) (Zoj (by decide) n1 (by rw[n3];rfl)) (fun _=>Ybb o3 n3),by rw[Zoh rfl];exact n3,rfl⟩
  cases ho:Dm cs t with
  | none =>
   simp only[ho]at h ⊢;split
   ·rename_i hq;rw[if_pos hq]at h;cases h
   split
   ·exact hN _
   split
   ·exact hN _
   exact hN _
  | some o =>
   simp only[ho]at h ⊢;split
   ·exact hO o ho
   split
   ·exact hN _
   split
   ·exact hO o ho
   exact hB o ho
theorem Yaa {ph cs:Int}{key t:List UInt8}{n:Bb}(hp:0<=ph/\ph<=7) (hk:Ek key=true) (hc:1<=cs/\cs<=5) (hn:Dm 0 t=some n) (h:(∃o,Dm cs t=some o)\/(ph≠0/\ph≠7)):(Ni ph key cs t).2=0:=by
 unfold Ni;rw[if_pos ⟨hp,hk,hc⟩,hn];simp only;rcases h with ⟨o,ho⟩|⟨h1,h2⟩
 ·simp only[ho]
  repeat' split
  all_goals rfl
 rw[if_neg (by omega)];cases Dm cs t<;>(repeat' split)<;>rfl
theorem Zzg {cs:Nat}:∀{ns:List Nat},(∀n∈ns,∃b,E2 cs n=some b)->∃l,El cs ns=some l
 | [],_=>⟨[],rfl⟩
 | n::ns,h=>by
  obtain⟨b,hb⟩:=h n (by simp);obtain⟨l,hl⟩:=Zzg fun m hm=>h m (Kj _ hm);exact⟨b++l,by simp only[El,hb,hl]⟩
theorem Zkt {cs:Int}{ns:List Nat}(hc:0<=cs/\cs<=5) (hn:∀n∈ns,Cc n=true/\∃b,E2 cs.toNat n=some b) (hl:ns.length<=5):∃c,Dm cs (E5 ns)=some c:=by
 obtain⟨b,hb⟩:=Zzg (cs:=cs.toNat) fun n h=>(hn n h).2;have he:Mw cs (E5 ns)=some b:=by
  unfold Mw Zv;rw[if_pos hc,Zqa (cs:=0) (by omega) (Zo9 fun n h=>(hn n h).1)];exact hb
 have hlen:=Zzf (cs:=cs.toNat) (by omega) hb;unfold Dm;rw[he];simp only;rw[if_pos (by omega)];exact⟨_,rfl⟩
theorem Yqo {b:List UInt8}{s:Cs}(hb:B20 b) (hs:0<=s.1):∃(v:Int) (s':Cs),Zdh (b,s)=some (v,s')/\(1<=v/\v<=5)/\0<=s'.1:=by
 unfold Zdh;obtain⟨v,s',e,h1,_,k⟩:=I1 (s:=(s.1,s.2)) 5 hb hs;have h1:=h1 (by omega);simp only[e,Aa];rw[Cz (by omega) (by omega)];exact⟨_,_,rfl,by omega,k⟩
theorem Zxj {b:List UInt8}{s:Cs}(hb:B20 b) (hs:0<=s.1):∃(v:List UInt8) (s':Cs),Yv (b,s)=some (v,s')/\Ek v=true/\0<=s'.1:=by
 unfold Yv;obtain⟨v,s',e,h1,k⟩:=Yql (s:=(s.1,s.2)) [[97],[98],[99],[100],[101,53]] hb hs (by simp);simp only[e,Aa];have:([[97],[98],[99],[100],[101,53]]:List (List UInt8)).all Ek=true:=by decide +kernel
 exact⟨_,_,rfl,Kna.1 this v h1,k⟩
theorem Yqq {b:List UInt8}{s:Cs}(hb:B20 b) (hs:0<=s.1):∃(r:Row) (s':Cs),Zdk (b,s)=some (r,s')/\Bo r=true/\0<=s'.1:=by
 unfold Zdk;obtain⟨cs,s1,e1,l1,k1⟩:=Yqo (s:=(s.1,s.2)) hb hs;simp only[e1,Aa];obtain⟨name,s2,e2,l2,k2⟩:=Zxj (s:=(s1.1,s1.2)) hb k1;have hname:name.length<9223372036854775807:=by have:=(O3 l2).2;omega
 simp only[e2,Aa];obtain⟨v3,s3,e3,_,_,k3⟩:=I1 (s:=(s2.1,s2.2)) 6 hb k2;simp only[e3,Aa,E8];by_cases c0:(v3:Int)=0
 ·rw[decide_eq_true c0,Ad];refine⟨_,_,rfl, ?_,k3⟩;exact Rg l2 (by decide) (Ws (by decide) (by decide) (by decide) (.inr ⟨rfl,rfl⟩)) Zok (fun h=>by cases h)
 rw[decide_eq_false c0,Ac];have tot:∀{ns:List Nat} {c:Int},(∀n∈ns,Y0 c n)->ns.length<=5->∃d,Dm 0 (E5 ns)=some d:=fun h hl=>Zkt (by omega) (fun n hn=>⟨(h n hn).1,_,Zpb (h n hn).1⟩) hl;by_cases c1:(v3:Int)=1
 ·rw[decide_eq_true c1,Ad];obtain⟨ns,s4,e4,l4,g4,k4⟩:=Zxk (s:=(s3.1,s3.2)) cs 5 hb k3 (by omega);have hl:=Zbz ns;simp only[show ((5:Nat):Int)=5 from rfl]at e4;simp only[e4,Aa];rw[Zp0 hname (by omega),Aa];obtain⟨d,hd⟩:=tot g4 l4;obtain⟨o,ho⟩:=Zkt (cs:=cs) (by omega) (fun n hn=>⟨(g4 n hn).1,(g4 n hn).2 (by omega) (by omega)⟩) l4;exact⟨_,_,rfl,(Zpq (Yaa (by decide) l2 l1 hd (.inl ⟨o,ho⟩))).ok,k4⟩
 rw[decide_eq_false c1,Ac];obtain⟨v4,s4,e4,l4,_,k4⟩:=I1 (s:=(s3.1,s3.2)) 8 hb k3;have l4:=l4 (by omega);simp only[e4,Aa];obtain⟨v5,s5,e5,_,k5⟩:=Wh (s:=(s4.1,s4.2)) [cs,cs,cs,0] hb k4 (by simp);simp only[e5,Aa];obtain⟨ns,s6,e6,l6,g6,k6⟩:=Zxk (s:=(s5.1,s5.2)) v5 5 hb k5 (by omega);have hl:=Zbz ns;simp only[show ((5:Nat):Int)=5 from rfl]at e6;simp only[e6,Aa];rw[Zp0 hname (by omega),Aa];obtain⟨d,hd⟩:=tot g6 l6;have fin:∀(r:Row),Bo r=true->∃(r':Row) (s':Cs),(bnd (D8 ((b,(s6.1,s6.2)),5)) (fun z9=>(cnd (iEq z9.1 0) (bnd (Yi r) (fun z10=>(some (z10,(z9.2.1,z9.2.2))))) (cnd (iEq z9.1 1) (bnd (Yh r) (fun z10=>(some (z10,(z9.2.1,z9.2.2))))) (some (r,(z9.2.1,z9.2.2)))))))=some (r',s')/\Bo r'=true/\0<=s'.1:=by
  intro r hr;obtain⟨v9,s9,e9,_,_,k9⟩:=I1 (s:=(s6.1,s6.2)) 5 hb k6;simp only[e9,Aa,E8];by_cases d0:(v9:Int)=0
  ·rw[decide_eq_true d0,Ad,Ytz (Zyu hr),Aa];exact⟨_,_,rfl,(Yuy (t:=_) ⟨hr,rfl,rfl⟩).ok,k9⟩
  rw[decide_eq_false d0,Ac];by_cases d1:(v9:Int)=1
  ·rw[decide_eq_true d1,Ad,Ytu (Zyu hr),Aa];exact⟨_,_,rfl,(Yux (t:=_) ⟨hr,rfl,rfl⟩).ok,k9⟩
  rw[decide_eq_false d1,Ac];exact⟨_,_,rfl,hr,k9⟩
 have h120:E5 [120]=[120]:=by decide
 obtain⟨d2,hd2⟩:=Zkt (cs:=0) (ns:=[120]) (by omega) (fun n hn=>by simp only[Koa]at hn;subst hn;exact⟨by decide,_,Zpb (by decide)⟩) (by simp);rw[h120]at hd2;by_cases hg:(Ni (v4:Int) name cs (E5 ns)).2=0
 ·rw[hg,Oq,Ac,Ar];exact fin (Ni (v4:Int) name cs (E5 ns)).1 (Zpq hg).ok
 rw[Iz hg,Ad,Zp0 hname (by simp),Aa,Ar];exact fin (Ni 5 name cs [120]).1 (Zpq (Yaa (by decide) l2 l1 hd2 (.inr (by decide)))).ok
end
end Go.Vs
