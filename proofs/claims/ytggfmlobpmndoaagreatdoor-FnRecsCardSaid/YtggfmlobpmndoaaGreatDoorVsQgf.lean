import Derived.Test.YtggfmlobpmndoaaGreatDoorVsW5
import Derived.Test.YtggfmlobpmndoaaGreatDoorVsQge
set_option linter.all false
namespace Go.Vs
noncomputable section
theorem F_l_sameRec_eta (x:((Int×(((List UInt8)×((Int×(List UInt8))×((Int×(List UInt8))×(Int×Bool))))×((List UInt8)×(Int×(Int×(Int×Int))))))×(Int×(((List UInt8)×((Int×(List UInt8))×((Int×(List UInt8))×(Int×Bool))))×((List UInt8)×(Int×(Int×(Int×Int)))))))):F_l_sameRec x=((cnd (iEq x.1.1 x.2.1) (bnd (F_l_sameRow (x.1.2.1,x.2.2.1)) (fun z1=>(cnd z1 (cnd (sEq x.1.2.2.1 x.2.2.2.1) (cnd (iEq x.1.2.2.2.1 x.2.2.2.2.1) (cnd (iEq x.1.2.2.2.2.1 x.2.2.2.2.2.1) (cnd (iEq x.1.2.2.2.2.2.1 x.2.2.2.2.2.2.1) (some (iEq x.1.2.2.2.2.2.2 x.2.2.2.2.2.2.2)) (some false)) (some false)) (some false)) (some false)) (some false)))) (some false))):=rfl
theorem F_s_l11Draw_eta (x:((List UInt8)×(Int×Int))):F_s_l11Draw x=((bnd (F_s_l1Below (x,4)) (fun z1=>(joinX (cnd (iEq (iAdd .i64 1 z1.1) 1) (bnd (F_s_l9Draw (x.1,z1.2)) (fun z2=>(some (.inl (z2.2.1,(z2.2.2,(z2.1.1,(z2.1.2.1.1,(z2.1.2.1.2,(z2.1.2.2.1.1,(z2.1.2.2.1.2,(z2.1.2.2.2.1,(z2.1.2.2.2.2,([],0)))))))))))))) (cnd (iEq (iAdd .i64 1 z1.1) 2) (bnd (F_s_l1Name (x.1,z1.2)) (fun z2=>(some (.inl (z2.2.1,(z2.2.2,([],(0,([],(0,([],(0,(false,(z2.1,0)))))))))))))) (cnd (iEq (iAdd .i64 1 z1.1) 3) (bnd (F_s_l1Below ((x.1,z1.2),8)) (fun z2=>(some (.inl (z2.2.1,(z2.2.2,([],(0,([],(0,([],(0,(false,([],z2.1)))))))))))))) (some (.inl (z1.2.1,(z1.2.2,([],(0,([],(0,([],(0,(false,([],0))))))))))))))) (fun (z2:(Int×(Int×((List UInt8)×(Int×((List UInt8)×(Int×((List UInt8)×(Int×(Bool×((List UInt8)×Int)))))))))))=>(joinX (cnd (iEq (iAdd .i64 1 z1.1) 4) (bnd (F_s_l1Below ((x.1,(z2.1,z2.2.1)),3)) (fun z3=>(bnd (F_s_l1Int ((x.1,z3.2),[0,1,2,65535])) (fun z4=>(bnd (F_s_l1Below ((x.1,z4.2),7)) (fun z5=>(some (.inl (z5.2.1,(z5.2.2,((iAdd .i64 1 z3.1),(z4.1,z5.1)))))))))))) (bnd (F_s_l1Once ((x.1,(z2.1,z2.2.1)),2)) (fun z3=>(cnd z3.1 (bnd (F_s_l1Below ((x.1,z3.2),3)) (fun z4=>(bnd (F_s_l1Int ((x.1,z4.2),[0,1,2,65535])) (fun z5=>(bnd (F_s_l1Below ((x.1,z5.2),7)) (fun z6=>(some (.inl (z6.2.1,(z6.2.2,((iAdd .i64 1 z4.1),(z5.1,z6.1)))))))))))) (some (.inl (z3.2.1,(z3.2.2,(0,(0,0)))))))))) (fun (z3:(Int×(Int×(Int×(Int×Int)))))=>(some (((iAdd .i64 1 z1.1),((z2.2.2.1,((z2.2.2.2.1,z2.2.2.2.2.1),((z2.2.2.2.2.2.1,z2.2.2.2.2.2.2.1),(z2.2.2.2.2.2.2.2.1,z2.2.2.2.2.2.2.2.2.1)))),(z2.2.2.2.2.2.2.2.2.2.1,(z2.2.2.2.2.2.2.2.2.2.2,z3.2.2)))),(z3.1,z3.2.1)))))))))):=rfl
theorem F_s_l1Num_eta (x:((List UInt8)×(Int×Int))):F_s_l1Num x=((bnd (F_s_l1Int (x,[0,1,7,255,256,4660,65535,65536,(-1),9223372036854775807,(-9223372036854775808)])) (fun z1=>(some z1)))):=rfl
theorem F_s_l11Any_eta (x:((List UInt8)×(Int×Int))):F_s_l11Any x=((bnd (F_s_l11Draw x) (fun z1=>(joinX (bnd (F_s_l1Below ((x.1,z1.2),14)) (fun z2=>(cnd (iEq z2.1 0) (bnd (F_s_l1Below ((x.1,z2.2),6)) (fun z3=>(some (.inl (z3.2.1,(z3.2.2,(z3.1,(z1.1.2.1.1,(z1.1.2.1.2.1.1,(z1.1.2.1.2.1.2,(z1.1.2.1.2.2.1.1,(z1.1.2.1.2.2.1.2,(z1.1.2.1.2.2.2.1,(z1.1.2.1.2.2.2.2,z1.1.2.2)))))))))))))) (cnd (iEq z2.1 1) (bnd (F_s_l9Any (x.1,z2.2)) (fun z3=>(some (.inl (z3.2.1,(z3.2.2,(z1.1.1,(z3.1.1,(z3.1.2.1.1,(z3.1.2.1.2,(z3.1.2.2.1.1,(z3.1.2.2.1.2,(z3.1.2.2.2.1,(z3.1.2.2.2.2,z1.1.2.2)))))))))))))) (cnd (iEq z2.1 2) (bnd (F_s_l1Text (x.1,z2.2)) (fun z3=>(some (.inl (z3.2.1,(z3.2.2,(z1.1.1,(z1.1.2.1.1,(z1.1.2.1.2.1.1,(z1.1.2.1.2.1.2,(z1.1.2.1.2.2.1.1,(z1.1.2.1.2.2.1.2,(z1.1.2.1.2.2.2.1,(z1.1.2.1.2.2.2.2,(z3.1,z1.1.2.2.2))))))))))))))) (cnd (iEq z2.1 3) (bnd (F_s_l1Int ((x.1,z2.2),[(-1),7,8])) (fun z3=>(some (.inl (z3.2.1,(z3.2.2,(z1.1.1,(z1.1.2.1.1,(z1.1.2.1.2.1.1,(z1.1.2.1.2.1.2,(z1.1.2.1.2.2.1.1,(z1.1.2.1.2.2.1.2,(z1.1.2.1.2.2.2.1,(z1.1.2.1.2.2.2.2,(z1.1.2.2.1,(z3.1,z1.1.2.2.2.2)))))))))))))))) (cnd (iEq z2.1 4) (bnd (F_s_l1Int ((x.1,z2.2),[(-1),0,9,10])) (fun z3=>(some (.inl (z3.2.1,(z3.2.2,(z1.1.1,(z1.1.2.1.1,(z1.1.2.1.2.1.1,(z1.1.2.1.2.1.2,(z1.1.2.1.2.2.1.1,(z1.1.2.1.2.2.1.2,(z1.1.2.1.2.2.2.1,(z1.1.2.1.2.2.2.2,(z1.1.2.2.1,(z1.1.2.2.2.1,(z3.1,z1.1.2.2.2.2.2))))))))))))))))) (cnd (iEq z2.1 5) (bnd (F_s_l1Num (x.1,z2.2)) (fun z3=>(some (.inl (z3.2.1,(z3.2.2,(z1.1.1,(z1.1.2.1.1,(z1.1.2.1.2.1.1,(z1.1.2.1.2.1.2,(z1.1.2.1.2.2.1.1,(z1.1.2.1.2.2.1.2,(z1.1.2.1.2.2.2.1,(z1.1.2.1.2.2.2.2,(z1.1.2.2.1,(z1.1.2.2.2.1,(z1.1.2.2.2.2.1,(z3.1,z1.1.2.2.2.2.2.2)))))))))))))))))) (cnd (iEq z2.1 6) (bnd (F_s_l1Int ((x.1,z2.2),[(-1),6,7])) (fun z3=>(some (.inl (z3.2.1,(z3.2.2,(z1.1.1,(z1.1.2.1.1,(z1.1.2.1.2.1.1,(z1.1.2.1.2.1.2,(z1.1.2.1.2.2.1.1,(z1.1.2.1.2.2.1.2,(z1.1.2.1.2.2.2.1,(z1.1.2.1.2.2.2.2,(z1.1.2.2.1,(z1.1.2.2.2.1,(z1.1.2.2.2.2.1,(z1.1.2.2.2.2.2.1,z3.1)))))))))))))))))) (some (.inl (z2.2.1,(z2.2.2,(z1.1.1,(z1.1.2.1.1,(z1.1.2.1.2.1.1,(z1.1.2.1.2.1.2,(z1.1.2.1.2.2.1.1,(z1.1.2.1.2.2.1.2,(z1.1.2.1.2.2.2.1,(z1.1.2.1.2.2.2.2,z1.1.2.2))))))))))))))))))))) (fun (z2:(Int×(Int×(Int×((List UInt8)×(Int×((List UInt8)×(Int×((List UInt8)×(Int×(Bool×((List UInt8)×(Int×(Int×(Int×Int)))))))))))))))=>(some ((z2.2.2.1,((z2.2.2.2.1,((z2.2.2.2.2.1,z2.2.2.2.2.2.1),((z2.2.2.2.2.2.2.1,z2.2.2.2.2.2.2.2.1),(z2.2.2.2.2.2.2.2.2.1,z2.2.2.2.2.2.2.2.2.2.1)))),z2.2.2.2.2.2.2.2.2.2.2)),(z2.1,z2.2.1)))))))):=rfl
theorem F_s_DrawPutRec_eta (x:(List UInt8)):F_s_DrawPutRec x=((bnd (F_s_l1New x) (fun z1=>(bnd (F_s_l1Int ((x,(0,z1)),[1,2,65535,65536,(-1)])) (fun z2=>(bnd (F_s_l1Int ((x,z2.2),[0,1,40,65536])) (fun z3=>(bnd (F_s_l11Any (x,z3.2)) (fun z4=>(some (z2.1,(z3.1,z4.1)))))))))))):=rfl
theorem F_s_DrawGetRec_eta (x:(List UInt8)):F_s_DrawGetRec x=((bnd (F_s_l1New x) (fun z1=>(bnd (F_s_l1Below ((x,(0,z1)),3)) (fun z2=>(bnd (F_s_l1Below ((x,z2.2),9)) (fun z3=>(bnd (F_s_l11Draw (x,z3.2)) (fun z4=>(bnd (F_s_PutRec ((iAdd .i64 1 z2.1),(z3.1,z4.1))) (fun z5=>(bnd (F_s_l1Bend ((x,z4.2),z5)) (fun z6=>(bnd (F_s_l1Once ((x,z6.2),6)) (fun z7=>(cnd z7.1 (cnd (iGt (lLen z6.1) 7) (chk (within 0 (iSub .i64 (lLen z6.1) 2) (lLen z6.1)) (bnd (F_s_l1Below ((x,z7.2),2)) (fun z8=>(bnd (F_s_l1Below ((x,z8.2),8)) (fun z9=>(chk (iLt (iAdd .i64 4 z8.1) (Int.ofNat ((nOf (iSub .i64 (lLen z6.1) 2)) - 0))) (bnd (idx z6.1 (iAdd .i64 4 z8.1)) (fun z10=>(chk (fits 0 ((nOf (iSub .i64 (lLen z6.1) 2)) - 0) (lSet z6.1 (0+(nOf (iAdd .i64 4 z8.1))) (u8 (iConv .u8 z9.1))).length) (bnd (F_s_Sum (lTake ((nOf (iSub .i64 (lLen z6.1) 2)) - 0) (lSet z6.1 (0+(nOf (iAdd .i64 4 z8.1))) (u8 (iConv .u8 z9.1))))) (fun z11=>(chk (fits 0 ((nOf (iSub .i64 (lLen z6.1) 2)) - 0) (lSet z6.1 (0+(nOf (iAdd .i64 4 z8.1))) (u8 (iConv .u8 z9.1))).length) (bnd (F_s_PutW ((lTake ((nOf (iSub .i64 (lLen z6.1) 2)) - 0) (lSet z6.1 (0+(nOf (iAdd .i64 4 z8.1))) (u8 (iConv .u8 z9.1)))),z11)) (fun z12=>(some z12))))))))))))))) (some z6.1)) (some z6.1))))))))))))))))):=rfl
theorem F_s_DrawRecOk_eta (x:(List UInt8)):F_s_DrawRecOk x=((bnd (F_s_l1New x) (fun z1=>(bnd (F_s_l11Any (x,(0,z1))) (fun z2=>(some z2.1)))))):=rfl
theorem F_l_FnRecs_eta (x:(List UInt8)):F_l_FnRecs x=((bnd (F_l_big x) (fun z1=>(cnd z1 (some true) (bnd (F_s_DrawPutRec x) (fun z2=>(bnd (F_i_PutRec z2) (fun z3=>(bnd (F_s_DrawGetRec x) (fun z4=>(bnd (F_i_GetRec z4) (fun z5=>(bnd (F_s_GetRec z4) (fun z6=>(bnd (F_s_DrawRecOk x) (fun z7=>(cnd (bNe z5.2.2.2 z6.2.2.2) (some false) (cnd z5.2.2.2 (bnd (F_i_PutRec (z5.1,(z5.2.1,z5.2.2.1))) (fun z8=>(cnd (bNot (sEq z8 z4)) (some false) (bnd (F_i_RecOk z7) (fun z9=>(bnd (F_s_RecOk z7) (fun z10=>(cnd (bNe z9 z10) (some false) (bnd (F_i_RecOk z2.2.2) (fun z11=>(cnd (bNot z11) (some (iEq (lLen z3) 0)) (cnd (iLt z2.1 0) (some (iEq (lLen z3) 0)) (cnd (iGt z2.1 65535) (some (iEq (lLen z3) 0)) (cnd (iLt z2.2.1 0) (some (iEq (lLen z3) 0)) (cnd (iGt z2.2.1 65535) (some (iEq (lLen z3) 0)) (bnd (F_i_GetRec z3) (fun z12=>(cnd (bNot z12.2.2.2) (some false) (cnd (iNe z12.1 z2.1) (some false) (cnd (iNe z12.2.1 z2.2.1) (some false) (bnd (F_l_sameRec (z12.2.2.1,z2.2.2)) (fun z13=>(cnd (bNot z13) (some false) (cnd (iGt (lLen z3) 120) (some false) (bnd (F_l_at (x,2)) (fun z14=>(chk (iNe (lLen z3) 0) (bnd (idx z3 (iRem z14 (lLen z3))) (fun z15=>(bnd (F_l_at (x,3)) (fun z16=>(bnd (idx z3 (iRem z14 (lLen z3))) (fun z17=>(bnd (F_i_GetRec (lSet z3 (nOf (iRem z14 (lLen z3))) (u8 (iXor .u8 (y2i z15) (y2i (u8 (iConv .u8 (iAdd .i64 1 (iRem z16 255))))))))) (fun z18=>(some (bNot z18.2.2.2))))))))))))))))))))))))))))))))))))) (bnd (F_i_RecOk z7) (fun z8=>(bnd (F_s_RecOk z7) (fun z9=>(cnd (bNe z8 z9) (some false) (bnd (F_i_RecOk z2.2.2) (fun z10=>(cnd (bNot z10) (some (iEq (lLen z3) 0)) (cnd (iLt z2.1 0) (some (iEq (lLen z3) 0)) (cnd (iGt z2.1 65535) (some (iEq (lLen z3) 0)) (cnd (iLt z2.2.1 0) (some (iEq (lLen z3) 0)) (cnd (iGt z2.2.1 65535) (some (iEq (lLen z3) 0)) (bnd (F_i_GetRec z3) (fun z11=>(cnd (bNot z11.2.2.2) (some false) (cnd (iNe z11.1 z2.1) (some false) (cnd (iNe z11.2.1 z2.2.1) (some false) (bnd (F_l_sameRec (z11.2.2.1,z2.2.2)) (fun z12=>(cnd (bNot z12) (some false) (cnd (iGt (lLen z3) 120) (some false) (bnd (F_l_at (x,2)) (fun z13=>(chk (iNe (lLen z3) 0) (bnd (idx z3 (iRem z13 (lLen z3))) (fun z14=>(bnd (F_l_at (x,3)) (fun z15=>(bnd (idx z3 (iRem z13 (lLen z3))) (fun z16=>(bnd (F_i_GetRec (lSet z3 (nOf (iRem z13 (lLen z3))) (u8 (iXor .u8 (y2i z14) (y2i (u8 (iConv .u8 (iAdd .i64 1 (iRem z15 255))))))))) (fun z17=>(some (bNot z17.2.2.2)))))))))))))))))))))))))))))))))))))))))))))))))))):=rfl
theorem sameRec_r (r:Rec):F_l_sameRec (r,r)=some true:=by
 rw[F_l_sameRec_eta]
 simp only[iEq_r,cnd_t,sameRow_r,bnd_s,sEq_r]
theorem zRow_sm:smR 100 zRow:=⟨by simp [zRow],by simp [zRow],by simp [zRow]⟩
theorem l11Draw_ok {b:List UInt8}{s:Cs}(hb:B20 b) (hs:0<=s.1):∃ (r:Rec) (s':Cs),F_s_l11Draw (b,s)=some (r,s')/\smC 100 r/\0<=s'.1:=by
 rw[F_s_l11Draw_eta]
 obtain⟨v1,s1,e1,_,_,k1⟩:=l1Below_ok (s:=s) 4 hb hs
 simp only[e1,bnd_s]
 generalize iAdd .i64 1 (v1:Int)=kd
 have draw3:∀ (q:Cs),0<=q.1->∃ (p:Cs) (w sq cd:Int),(bnd (F_s_l1Below ((b,q),3)) (fun z3=>(bnd (F_s_l1Int ((b,z3.2),[0,1,2,65535])) (fun z4=>(bnd (F_s_l1Below ((b,z4.2),7)) (fun z5=>(some (Sum.inl (z5.2.1,(z5.2.2,((iAdd .i64 1 z3.1),(z4.1,z5.1)))):(Int×Int×Int×Int×Int) ⊕ (Rec×Cs)))))))))=some (.inl (p.1,p.2,w,sq,cd))/\0<=p.1:=by
  intro q hq
  obtain⟨v3,s3,e3,_,_,k3⟩:=l1Below_ok (s:=q) 3 hb hq
  rw[e3,bnd_s]
  obtain⟨v4,s4,e4,_,k4⟩:=l1Int_ok (s:=s3) [0,1,2,65535] hb k3 (by simp)
  simp only[e4,bnd_s]
  obtain⟨v5,s5,e5,_,_,k5⟩:=l1Below_ok (s:=s4) 7 hb k4
  rw[e5,bnd_s]
  exact⟨s5,_,_,_,rfl,k5⟩
 have fin:∀ (q:Cs) (R:Row) (key:List UInt8) (n:Int),0<=q.1->smR 100 R->key.length<=100->∃ (r:Rec) (s':Cs),(joinX (cnd (iEq kd 4) (bnd (F_s_l1Below ((b,q),3)) (fun z3=>(bnd (F_s_l1Int ((b,z3.2),[0,1,2,65535])) (fun z4=>(bnd (F_s_l1Below ((b,z4.2),7)) (fun z5=>(some (Sum.inl (z5.2.1,(z5.2.2,((iAdd .i64 1 z3.1),(z4.1,z5.1))))))))))))
   (bnd (F_s_l1Once ((b,q),2)) (fun z3=>(cnd z3.1 (bnd (F_s_l1Below ((b,z3.2),3)) (fun z4=>(bnd (F_s_l1Int ((b,z4.2),[0,1,2,65535])) (fun z5=>(bnd (F_s_l1Below ((b,z5.2),7)) (fun z6=>(some (.inl (z6.2.1,(z6.2.2,((iAdd .i64 1 z4.1),(z5.1,z6.1)))))))))))) (some (.inl (z3.2.1,(z3.2.2,(0,(0,0)))))))))) (fun (z3:(Int×(Int×(Int×(Int×Int)))))=>(some ((kd,(R,(key,(n,z3.2.2)))),(z3.1,z3.2.1)))))=some (r,s')/\smC 100 r/\0<=s'.1:=by
  intro q R key n hq hR hkey
  cases iEq kd 4 with
  | true =>
   obtain⟨p,w,sq,cd,e,hp⟩:=draw3 q hq
   rw[cnd_t,e,joinX_l]
   exact⟨_,_,rfl,⟨hR,hkey⟩,hp⟩
  | false =>
   obtain⟨t,s3,e3,k3⟩:=l1Once_ok (s:=q) 2 hb hq
   rw[cnd_f,e3,bnd_s]
   cases t with
   | true =>
    obtain⟨p,w,sq,cd,e,hp⟩:=draw3 s3 k3
    simp only[cnd_t]
    rw[e,joinX_l]
    exact⟨_,_,rfl,⟨hR,hkey⟩,hp⟩
   | false =>
    simp only[cnd_f,joinX_l]
    exact⟨_,_,rfl,⟨hR,hkey⟩,k3⟩
 by_cases c1:kd=1
 ·rw[show iEq kd 1=true by rw[iEq_x];exact decide_eq_true c1,cnd_t]
  obtain⟨R,s2,e2,h2,k2⟩:=l9Draw_ok (s:=s1) hb k1
  rw[e2,bnd_s,joinX_l]
  exact fin s2 R [] 0 k2 (ok_sm h2) (by simp)
 rw[show iEq kd 1=false by rw[iEq_x];exact decide_eq_false c1,cnd_f]
 by_cases c2:kd=2
 ·rw[show iEq kd 2=true by rw[iEq_x];exact decide_eq_true c2,cnd_t]
  obtain⟨key,s2,e2,h2,k2⟩:=l1Name_ok (s:=s1) hb k1
  rw[e2,bnd_s,joinX_l]
  exact fin s2 zRow key 0 k2 zRow_sm (by have:=(nameOk_len h2).2;omega)
 rw[show iEq kd 2=false by rw[iEq_x];exact decide_eq_false c2,cnd_f]
 by_cases c3:kd=3
 ·rw[show iEq kd 3=true by rw[iEq_x];exact decide_eq_true c3,cnd_t]
  obtain⟨v,s2,e2,_,_,k2⟩:=l1Below_ok (s:=s1) 8 hb k1
  rw[e2,bnd_s,joinX_l]
  exact fin s2 zRow [] v k2 zRow_sm (by simp)
 ·rw[show iEq kd 3=false by rw[iEq_x];exact decide_eq_false c3,cnd_f,joinX_l]
  exact fin s1 zRow [] 0 k1 zRow_sm (by simp)
theorem l1Num_ok {b:List UInt8}{s:Cs}(hb:B20 b) (hs:0<=s.1):∃ (v:Int) (s':Cs),F_s_l1Num (b,s)=some (v,s')/\0<=s'.1:=by
 rw[F_s_l1Num_eta]
 obtain⟨v,s',e,_,k⟩:=l1Int_ok (s:=s) [0,1,7,255,256,4660,65535,65536,(-1),9223372036854775807,(-9223372036854775808)] hb hs (by simp)
 rw[e,bnd_s]
 exact⟨_,_,rfl,k⟩
theorem l11Any_ok {b:List UInt8}{s:Cs}(hb:B20 b) (hs:0<=s.1):∃ (r:Rec) (s':Cs),F_s_l11Any (b,s)=some (r,s')/\smC 100 r/\0<=s'.1:=by
 rw[F_s_l11Any_eta]
 obtain⟨r,s1,e1,⟨q1,q2⟩,k1⟩:=l11Draw_ok (s:=s) hb hs
 simp only[e1,bnd_s]
 obtain⟨v2,s2,e2,_,_,k2⟩:=l1Below_ok (s:=s1) 14 hb k1
 simp only[e2,bnd_s,iEq_x]
 by_cases c0:(v2:Int)=0
 ·rw[decide_eq_true c0,cnd_t]
  obtain⟨v,s3,e3,_,_,k3⟩:=l1Below_ok (s:=s2) 6 hb k2
  rw[e3,bnd_s,joinX_l]
  exact⟨_,_,rfl,⟨q1,q2⟩,k3⟩
 rw[decide_eq_false c0,cnd_f]
 by_cases c1:(v2:Int)=1
 ·rw[decide_eq_true c1,cnd_t]
  obtain⟨v,s3,e3,h3,k3⟩:=l9Any_ok (s:=s2) hb k2
  rw[e3,bnd_s,joinX_l]
  exact⟨_,_,rfl,⟨h3,q2⟩,k3⟩
 rw[decide_eq_false c1,cnd_f]
 by_cases c2:(v2:Int)=2
 ·rw[decide_eq_true c2,cnd_t]
  obtain⟨v,s3,e3,h3,k3⟩:=l1Text_ok (s:=s2) hb k2
  rw[e3,bnd_s,joinX_l]
  exact⟨_,_,rfl,⟨q1,by simp only;omega⟩,k3⟩
 rw[decide_eq_false c2,cnd_f]
 by_cases c3:(v2:Int)=3
 ·rw[decide_eq_true c3,cnd_t]
  obtain⟨v,s3,e3,h3,k3⟩:=l1Int_ok (s:=s2) [(-1),7,8] hb k2 (by simp)
  rw[e3,bnd_s,joinX_l]
  exact⟨_,_,rfl,⟨q1,q2⟩,k3⟩
 rw[decide_eq_false c3,cnd_f]
 by_cases c4:(v2:Int)=4
 ·rw[decide_eq_true c4,cnd_t]
  obtain⟨v,s3,e3,h3,k3⟩:=l1Int_ok (s:=s2) [(-1),0,9,10] hb k2 (by simp)
  rw[e3,bnd_s,joinX_l]
  exact⟨_,_,rfl,⟨q1,q2⟩,k3⟩
 rw[decide_eq_false c4,cnd_f]
 by_cases c5:(v2:Int)=5
 ·rw[decide_eq_true c5,cnd_t]
  obtain⟨v,s3,e3,k3⟩:=l1Num_ok (s:=s2) hb k2
  rw[e3,bnd_s,joinX_l]
  exact⟨_,_,rfl,⟨q1,q2⟩,k3⟩
 rw[decide_eq_false c5,cnd_f]
 by_cases c6:(v2:Int)=6
 ·rw[decide_eq_true c6,cnd_t]
  obtain⟨v,s3,e3,h3,k3⟩:=l1Int_ok (s:=s2) [(-1),6,7] hb k2 (by simp)
  rw[e3,bnd_s,joinX_l]
  exact⟨_,_,rfl,⟨q1,q2⟩,k3⟩
 ·rw[decide_eq_false c6,cnd_f,joinX_l]
  exact⟨_,_,rfl,⟨q1,q2⟩,k2⟩
end
end Go.Vs
