import Derived.Test.YtmfmjngkbddenaaGreatDoorVsQt9
set_option linter.all false
namespace Go.Vs
noncomputable section
def Gm:Row:=([],(0,[]),(0,[]),0,false)
theorem Zrs:smR 100 Gm:=⟨by simp [Gm],by simp [Gm],by simp [Gm]⟩
theorem Zxi {b:List UInt8}{s:Cs}(hb:B20 b) (hs:0<=s.1):∃(r:Rec) (s':Cs),U5 (b,s)=some (r,s')/\smC 100 r/\Cf r=true/\0<=s'.1:=by
 rw[U5];obtain⟨v1,s1,e1,b1,_,k1⟩:=I1 (s:=s) 4 hb hs;have b1:=b1 (by omega);simp only[e1,Aa];obtain⟨kd,hkd⟩:∃kd:Int,Aj .i64 1 (v1:Int)=kd:=⟨_,rfl⟩;have hkk:1<=kd/\kd<=4:=by rw[<-hkd,Cz (by omega) (by omega)];omega
 rw[hkd];have draw3:∀(q:Cs),0<=q.1->∃(p:Cs) (w sq cd:Int),(bnd (D8 ((b,q),3)) (fun z3=>(bnd (Jk ((b,z3.2),[0,1,2,65535])) (fun z4=>(bnd (D8 ((b,z4.2),7)) (fun z5=>(some (Sum.inl (z5.2.1,(z5.2.2,((Aj .i64 1 z3.1),(z4.1,z5.1)))):(Int×Int×Int×Int×Int) ⊕ (Rec×Cs)))))))))=some (.inl (p.1,p.2,w,sq,cd))/\(∀k,Ml k w sq cd=true)/\0<=p.1:=by
  intro q hq;obtain⟨v3,s3,e3,b3,_,k3⟩:=I1 (s:=q) 3 hb hq;rw[e3,Aa];obtain⟨v4,s4,e4,b4,k4⟩:=Wh (s:=s3) [0,1,2,65535] hb k3 (by simp);simp only[e4,Aa];obtain⟨v5,s5,e5,b5,_,k5⟩:=I1 (s:=s4) 7 hb k4;rw[e5,Aa];refine⟨s5,_,_,_,rfl,fun k=>?_,k5⟩;have b3:=b3 (by omega);have b5:=b5 (by omega);rw[Cz (by omega) (by omega)];have b4:0<=v4/\v4<=65535:=by
   simp only[Kh,Ktg,or_false]at b4;omega
  unfold Ml;rw[if_neg (by omega)];exact decide_eq_true ⟨by omega,by omega,by omega,by omega,by omega,by omega⟩
 have fin:∀(q:Cs) (R:Row) (key:List UInt8) (n:Int),0<=q.1->smR 100 R->key.length<=100->Fl kd R key n=true->∃(r:Rec) (s':Cs),(Ao (cnd (iEq kd 4) (bnd (D8 ((b,q),3)) (fun z3=>(bnd (Jk ((b,z3.2),[0,1,2,65535])) (fun z4=>(bnd (D8 ((b,z4.2),7)) (fun z5=>(some (Sum.inl (z5.2.1,(z5.2.2,((Aj .i64 1 z3.1),(z4.1,z5.1))))))))))))
   (bnd (Yw ((b,q),2)) (fun z3=>(cnd z3.1 (bnd (D8 ((b,z3.2),3)) (fun z4=>(bnd (Jk ((b,z4.2),[0,1,2,65535])) (fun z5=>(bnd (D8 ((b,z5.2),7)) (fun z6=>(some (.inl (z6.2.1,(z6.2.2,((Aj .i64 1 z4.1),(z5.1,z6.1)))))))))))) (some (.inl (z3.2.1,(z3.2.2,(0,(0,0)))))))))) (fun (z3:(Int×(Int×(Int×(Int×Int)))))=>(some ((kd,(R,(key,(n,z3.2.2)))),(z3.1,z3.2.1)))))=some (r,s')/\smC 100 r/\Cf r=true/\0<=s'.1:=by
  intro q R key n hq hR hkey hB;cases h4:iEq kd 4 with
  | true =>
   obtain⟨p,w,sq,cd,e,hw,hp⟩:=draw3 q hq;rw[Ad,e,Ar];exact⟨_,_,rfl,⟨hR,hkey⟩,by simp only[Cf,hB,hw kd,Kqd],hp⟩
  | false =>
   obtain⟨t,s3,e3,k3⟩:=Yqk (s:=q) 2 hb hq;rw[Ac,e3,Aa];cases t with
   | true =>
    obtain⟨p,w,sq,cd,e,hw,hp⟩:=draw3 s3 k3;simp only[Ad];rw[e,Ar];exact⟨_,_,rfl,⟨hR,hkey⟩,by simp only[Cf,hB,hw kd,Kqd],hp⟩
   | false =>
    simp only[Ac,Ar];exact⟨_,_,rfl,⟨hR,hkey⟩,by simp only[Cf,hB,Kec];unfold Ml;rw[if_pos rfl];exact decide_eq_true ⟨rfl,rfl,fun e=>by rw[E8,decide_eq_false_iff_not]at h4;exact h4 e⟩,k3⟩
 by_cases c1:kd=1
 ·rw[show iEq kd 1=true by rw[E8];exact decide_eq_true c1,Ad];obtain⟨R,s2,e2,h2,k2⟩:=Yqq (s:=s1) hb k1;rw[e2,Aa,Ar];exact fin s2 R [] 0 k2 (Zoq h2) (by simp) (by unfold Fl;rw[if_pos c1,h2];rfl)
 rw[show iEq kd 1=false by rw[E8];exact decide_eq_false c1,Ac];by_cases c2:kd=2
 ·rw[show iEq kd 2=true by rw[E8];exact decide_eq_true c2,Ad];obtain⟨key,s2,e2,h2,k2⟩:=Zxj (s:=s1) hb k1;rw[e2,Aa,Ar];exact fin s2 Gm key 0 k2 Zrs (by have:=(O3 h2).2;omega) (by unfold Fl;rw[if_neg c1,if_pos c2,h2];rfl)
 rw[show iEq kd 2=false by rw[E8];exact decide_eq_false c2,Ac];by_cases c3:kd=3
 ·rw[show iEq kd 3=true by rw[E8];exact decide_eq_true c3,Ad];obtain⟨v,s2,e2,b2,_,k2⟩:=I1 (s:=s1) 8 hb k1;have b2:=b2 (by omega);rw[e2,Aa,Ar];exact fin s2 Gm [] v k2 Zrs (by simp) (by unfold Fl;rw[if_neg c1,if_neg c2,if_pos c3,decide_eq_true (show 0<=(v:Int)/\(v:Int)<=7 by omega)];rfl)
 rw[show iEq kd 3=false by rw[E8];exact decide_eq_false c3,Ac,Ar];exact fin s1 Gm [] 0 k1 Zrs (by simp) (by unfold Fl;rw[if_neg c1,if_neg c2,if_neg c3,if_pos (by omega)];rfl)
end
end Go.Vs
