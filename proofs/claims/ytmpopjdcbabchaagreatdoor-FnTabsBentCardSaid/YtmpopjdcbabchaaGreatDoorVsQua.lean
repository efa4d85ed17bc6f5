import Derived.Test.YtmpopjdcbabchaaGreatDoorVsW5
import Derived.Test.YtmpopjdcbabchaaGreatDoorVsQu9
set_option linter.all false
namespace Go.Vs
noncomputable section
theorem sameRow_r (r:Row):Zx (r,r)=some true:=by
 unfold Zx
 rw[sEq_r,cnd_t]
 simp only[show ∀c:Cell,Zw ((c.1,c.2),(c.1,c.2))=some true from fun c=>sameCell_r c,bnd_s,cnd_t,iEq_r,bEq_r]
def zRow:Row:=([],(0,[]),(0,[]),0,false)
theorem sameRec_r (r:Rec):Zfd (r,r)=some true:=by
 rw[Zfd]
 simp only[iEq_r,cnd_t,sameRow_r,bnd_s,sEq_r]
theorem zRow_sm:smR 100 zRow:=⟨by simp [zRow],by simp [zRow],by simp [zRow]⟩
theorem l11Draw_ok {b:List UInt8}{s:Cs}(hb:B20 b) (hs:0<=s.1):∃(r:Rec) (s':Cs),Zbf (b,s)=some (r,s')/\smC 100 r/\recOk r=true/\0<=s'.1:=by
 rw[Zbf]
 obtain⟨v1,s1,e1,b1,_,k1⟩:=l1Below_ok (s:=s) 4 hb hs
 have b1:=b1 (by omega)
 simp only[e1,bnd_s]
 obtain⟨kd,hkd⟩:∃kd:Int,iAdd .i64 1 (v1:Int)=kd:=⟨_,rfl⟩
 have hkk:1<=kd/\kd<=4:=by rw[<-hkd,iAdd_ok (by omega) (by omega)];omega
 rw[hkd]
 have draw3:∀(q:Cs),0<=q.1->∃(p:Cs) (w sq cd:Int),(bnd (Zc ((b,q),3)) (fun z3=>(bnd (Zf ((b,z3.2),[0,1,2,65535])) (fun z4=>(bnd (Zc ((b,z4.2),7)) (fun z5=>(some (Sum.inl (z5.2.1,(z5.2.2,((iAdd .i64 1 z3.1),(z4.1,z5.1)))):(Int×Int×Int×Int×Int) ⊕ (Rec×Cs)))))))))=some (.inl (p.1,p.2,w,sq,cd))/\(∀k,whoOk k w sq cd=true)/\0<=p.1:=by
  intro q hq
  obtain⟨v3,s3,e3,b3,_,k3⟩:=l1Below_ok (s:=q) 3 hb hq
  rw[e3,bnd_s]
  obtain⟨v4,s4,e4,b4,k4⟩:=l1Int_ok (s:=s3) [0,1,2,65535] hb k3 (by simp)
  simp only[e4,bnd_s]
  obtain⟨v5,s5,e5,b5,_,k5⟩:=l1Below_ok (s:=s4) 7 hb k4
  rw[e5,bnd_s]
  refine⟨s5,_,_,_,rfl,fun k=>?_,k5⟩
  have b3:=b3 (by omega)
  have b5:=b5 (by omega)
  rw[iAdd_ok (by omega) (by omega)]
  have b4:0<=v4/\v4<=65535:=by
   simp only[List.mem_cons,List.not_mem_nil,or_false]at b4
   omega
  unfold whoOk
  rw[if_neg (by omega)]
  exact decide_eq_true ⟨by omega,by omega,by omega,by omega,by omega,by omega⟩
 have fin:∀(q:Cs) (R:Row) (key:List UInt8) (n:Int),0<=q.1->smR 100 R->key.length<=100->bodyOk kd R key n=true->∃(r:Rec) (s':Cs),(joinX (cnd (iEq kd 4) (bnd (Zc ((b,q),3)) (fun z3=>(bnd (Zf ((b,z3.2),[0,1,2,65535])) (fun z4=>(bnd (Zc ((b,z4.2),7)) (fun z5=>(some (Sum.inl (z5.2.1,(z5.2.2,((iAdd .i64 1 z3.1),(z4.1,z5.1))))))))))))
   (bnd (Zbo ((b,q),2)) (fun z3=>(cnd z3.1 (bnd (Zc ((b,z3.2),3)) (fun z4=>(bnd (Zf ((b,z4.2),[0,1,2,65535])) (fun z5=>(bnd (Zc ((b,z5.2),7)) (fun z6=>(some (.inl (z6.2.1,(z6.2.2,((iAdd .i64 1 z4.1),(z5.1,z6.1)))))))))))) (some (.inl (z3.2.1,(z3.2.2,(0,(0,0)))))))))) (fun (z3:(Int×(Int×(Int×(Int×Int)))))=>(some ((kd,(R,(key,(n,z3.2.2)))),(z3.1,z3.2.1)))))=some (r,s')/\smC 100 r/\recOk r=true/\0<=s'.1:=by
  intro q R key n hq hR hkey hB
  cases h4:iEq kd 4 with
  | true =>
   obtain⟨p,w,sq,cd,e,hw,hp⟩:=draw3 q hq
   rw[cnd_t,e,joinX_l]
   exact⟨_,_,rfl,⟨hR,hkey⟩,by simp only[recOk,hB,hw kd,Bool.and_self],hp⟩
  | false =>
   obtain⟨t,s3,e3,k3⟩:=l1Once_ok (s:=q) 2 hb hq
   rw[cnd_f,e3,bnd_s]
   cases t with
   | true =>
    obtain⟨p,w,sq,cd,e,hw,hp⟩:=draw3 s3 k3
    simp only[cnd_t]
    rw[e,joinX_l]
    exact⟨_,_,rfl,⟨hR,hkey⟩,by simp only[recOk,hB,hw kd,Bool.and_self],hp⟩
   | false =>
    simp only[cnd_f,joinX_l]
    exact⟨_,_,rfl,⟨hR,hkey⟩,by simp only[recOk,hB,Bool.true_and];unfold whoOk;rw[if_pos rfl];exact decide_eq_true ⟨rfl,rfl,fun e=>by rw[iEq_x,decide_eq_false_iff_not]at h4;exact h4 e⟩,k3⟩
 by_cases c1:kd=1
 ·rw[show iEq kd 1=true by rw[iEq_x];exact decide_eq_true c1,cnd_t]
  obtain⟨R,s2,e2,h2,k2⟩:=l9Draw_ok (s:=s1) hb k1
  rw[e2,bnd_s,joinX_l]
  exact fin s2 R [] 0 k2 (ok_sm h2) (by simp) (by unfold bodyOk;rw[if_pos c1,h2];rfl)
 rw[show iEq kd 1=false by rw[iEq_x];exact decide_eq_false c1,cnd_f]
 by_cases c2:kd=2
 ·rw[show iEq kd 2=true by rw[iEq_x];exact decide_eq_true c2,cnd_t]
  obtain⟨key,s2,e2,h2,k2⟩:=l1Name_ok (s:=s1) hb k1
  rw[e2,bnd_s,joinX_l]
  exact fin s2 zRow key 0 k2 zRow_sm (by have:=(nameOk_len h2).2;omega) (by unfold bodyOk;rw[if_neg c1,if_pos c2,h2];rfl)
 rw[show iEq kd 2=false by rw[iEq_x];exact decide_eq_false c2,cnd_f]
 by_cases c3:kd=3
 ·rw[show iEq kd 3=true by rw[iEq_x];exact decide_eq_true c3,cnd_t]
  obtain⟨v,s2,e2,b2,_,k2⟩:=l1Below_ok (s:=s1) 8 hb k1
  have b2:=b2 (by omega)
  rw[e2,bnd_s,joinX_l]
  exact fin s2 zRow [] v k2 zRow_sm (by simp) (by unfold bodyOk;rw[if_neg c1,if_neg c2,if_pos c3,decide_eq_true (show 0<=(v:Int)/\(v:Int)<=7 by omega)];rfl)
 ·rw[show iEq kd 3=false by rw[iEq_x];exact decide_eq_false c3,cnd_f,joinX_l]
  exact fin s1 zRow [] 0 k1 zRow_sm (by simp) (by unfold bodyOk;rw[if_neg c1,if_neg c2,if_neg c3,if_pos (by omega)];rfl)
theorem l1Num_ok {b:List UInt8}{s:Cs}(hb:B20 b) (hs:0<=s.1):∃(v:Int) (s':Cs),Zy (b,s)=some (v,s')/\0<=s'.1:=by
 rw[Zy]
 obtain⟨v,s',e,_,k⟩:=l1Int_ok (s:=s) [0,1,7,255,256,4660,65535,65536,(-1),9223372036854775807,(-9223372036854775808)] hb hs (by simp)
 rw[e,bnd_s]
 exact⟨_,_,rfl,k⟩
theorem l11Any_ok {b:List UInt8}{s:Cs}(hb:B20 b) (hs:0<=s.1):∃(r:Rec) (s':Cs),Zey (b,s)=some (r,s')/\smC 100 r/\0<=s'.1:=by
 rw[Zey]
 obtain⟨r,s1,e1,⟨q1,q2⟩,_,k1⟩:=l11Draw_ok (s:=s) hb hs
 simp only[e1,bnd_s]
 obtain⟨v2,s2,e2,_,_,k2⟩:=l1Below_ok (s:=s1) 14 hb k1
 simp only[e2,bnd_s,iEq_x]
 by_cases c0:(v2:Int)=0
 ·rw[decide_eq_true c0,cnd_t]
  obtain⟨v,s3,e3,_,_,k3⟩:=l1Below_ok (s:=s2) 6 hb k2
  rw[e3,bnd_s,joinX_l]
  exact⟨_,_,rfl,⟨q1,q2⟩,k3⟩
 rw[decide_eq_false c0,cnd_f]
 by_cases c1:(v2:Int)=1
 ·rw[decide_eq_true c1,cnd_t]
  obtain⟨v,s3,e3,h3,k3⟩:=l9Any_ok (s:=s2) hb k2
  rw[e3,bnd_s,joinX_l]
  exact⟨_,_,rfl,⟨h3,q2⟩,k3⟩
 rw[decide_eq_false c1,cnd_f]
 by_cases c2:(v2:Int)=2
 ·rw[decide_eq_true c2,cnd_t]
  obtain⟨v,s3,e3,h3,k3⟩:=l1Text_ok (s:=s2) hb k2
  rw[e3,bnd_s,joinX_l]
  exact⟨_,_,rfl,⟨q1,by simp only;omega⟩,k3⟩
 rw[decide_eq_false c2,cnd_f]
 by_cases c3:(v2:Int)=3
 ·rw[decide_eq_true c3,cnd_t]
  obtain⟨v,s3,e3,h3,k3⟩:=l1Int_ok (s:=s2) [(-1),7,8] hb k2 (by simp)
  rw[e3,bnd_s,joinX_l]
  exact⟨_,_,rfl,⟨q1,q2⟩,k3⟩
 rw[decide_eq_false c3,cnd_f]
 by_cases c4:(v2:Int)=4
 ·rw[decide_eq_true c4,cnd_t]
  obtain⟨v,s3,e3,h3,k3⟩:=l1Int_ok (s:=s2) [(-1),0,9,10] hb k2 (by simp)
  rw[e3,bnd_s,joinX_l]
  exact⟨_,_,rfl,⟨q1,q2⟩,k3⟩
 rw[decide_eq_false c4,cnd_f]
 by_cases c5:(v2:Int)=5
 ·rw[decide_eq_true c5,cnd_t]
  obtain⟨v,s3,e3,k3⟩:=l1Num_ok (s:=s2) hb k2
  rw[e3,bnd_s,joinX_l]
  exact⟨_,_,rfl,⟨q1,q2⟩,k3⟩
 rw[decide_eq_false c5,cnd_f]
 by_cases c6:(v2:Int)=6
 ·rw[decide_eq_true c6,cnd_t]
  obtain⟨v,s3,e3,h3,k3⟩:=l1Int_ok (s:=s2) [(-1),6,7] hb k2 (by simp)
  rw[e3,bnd_s,joinX_l]
  exact⟨_,_,rfl,⟨q1,q2⟩,k3⟩
 ·rw[decide_eq_false c6,cnd_f,joinX_l]
  exact⟨_,_,rfl,⟨q1,q2⟩,k2⟩
end
end Go.Vs
