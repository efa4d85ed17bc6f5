import Derived.Test.YtggfmlobpmndoaaGreatDoorVsW5
import Derived.Test.YtggfmlobpmndoaaGreatDoorVsQgf
set_option linter.all false
namespace Go.Vs
noncomputable section
theorem at_ok {x:List UInt8}(hx:B20 x) (i:Nat) (hi:i<=1000):∃ v:Nat,F_l_at (x,(i:Int))=some (v:Int)/\v<=255:=by
 unfold B20 at hx
 unfold F_l_at
 by_cases h:i<x.length
 ·have:=y_lt x[i]
  rw[iLt_y (by simp only[lLen_def];omega),cnd_t,idx_at h,bnd_s,y2i_n,iConv_s (k:=.i64) (by show _<2 ^ 63;omega)]
  exact⟨_,rfl,by omega⟩
 ·rw[iLt_n (by simp only[lLen_def];omega),cnd_f]
  have e1:iMul .i64 (i:Int) 31=((i*31:Nat):Int):=by rw[iMul_ok (by omega) (by omega)];omega
  have e2:iMul .i64 (lLen x) 7=((x.length*7:Nat):Int):=by rw[lLen_def,iMul_ok (by omega) (by omega)];omega
  rw[e1,e2,iAdd_n (by omega),show (256:Int)=((256:Nat):Int) from rfl,iRem_n]
  exact⟨_,rfl,by omega⟩
theorem turn_ne (y:UInt8) (v:Nat) (hv:v<=255):u8 (iXor .u8 (y2i y) (y2i (u8 (iConv .u8 (iAdd .i64 1 (iRem (v:Int) 255))))))≠y:=by
 have hy:=y_lt y
 have e1:iAdd .i64 1 (iRem (v:Int) 255)=((1+v % 255:Nat):Int):=by
  rw[show (255:Int)=((255:Nat):Int) from rfl,iRem_n,iAdd_ok (by omega) (by omega)];omega
 rw[e1,conv_u8,y2i_n,y2i_n,yN_toNat (by omega)]
 have e2:iXor .u8 (y.toNat:Int) ((1+v % 255:Nat):Int)=((y.toNat ^^^ (1+v % 255):Nat):Int):=by
  unfold iXor
  rw[BitVec.toNat_xor,ofInt_toNat (m:=IntKind.u8.bits) hy,ofInt_toNat (m:=IntKind.u8.bits) (show 1+v % 255<256 by omega)]
  exact wrap_u8 (Nat.xor_lt_two_pow (n:=8) hy (show 1+v % 255<256 by omega))
 rw[e2]
 intro h
 have h2:=congrArg UInt8.toNat h
 have hlt:y.toNat ^^^ (1+v % 255)<256:=Nat.xor_lt_two_pow (n:=8) hy (show 1+v % 255<256 by omega)
 rw[show u8 ((y.toNat ^^^ (1+v % 255):Nat):Int)=yN (y.toNat ^^^ (1+v % 255)) from rfl,yN_toNat hlt] at h2
 have h3:y.toNat ^^^ (y.toNat ^^^ (1+v % 255))=y.toNat ^^^ y.toNat:=by rw[h2]
 rw[<-Nat.xor_assoc,Nat.xor_self,Nat.zero_xor] at h3
 omega
theorem textB_le {s:List UInt8}(h:s.length<=60):(textB s).length=2+s.length:=by
 unfold textB;rw[if_pos h,List.length_append,wordB_len]
theorem cellB_le {c:Cell}(h:c.2.length<=20):(cellB c).length<=23:=by
 unfold cellB;rw[List.length_cons,textB_le (by omega)];omega
theorem rowB_small {r:Row}(h:rowOk r=true):(rowB r).length<=60:=by
 obtain⟨a,b,c,d,e,_⟩:=rowOk_has h
 have h1:=(nameOk_len a).2
 unfold rowB
 simp only[List.length_append,List.length_cons]
 rw[textB_le (by omega)]
 have h2:(if r.2.2.2.1=2 then [] else cellB r.2.1).length<=23:=by
  split
  ·simp
  ·rename_i hn;exact cellB_le (rOldOk_some d hn).2.2.1
 have h3:(if r.2.2.2.1=1 then [] else cellB r.2.2.1).length<=23:=by
  split
  ·simp
  ·rename_i hn;exact cellB_le (rNewOk_some e hn).2.2
 omega
theorem recB_small {g p:Int}{r:Rec}(h:recOk r=true):(recB g p r).length<=80:=by
 obtain⟨k,R,key,n,w,sq,cd⟩:=r
 unfold recOk at h
 simp only[Bool.and_eq_true] at h
 have hb:(bodyB k R key n).length<=60:=by
  have h1:=h.1
  unfold bodyOk at h1
  unfold bodyB
  split at h1
  ·rename_i hk
   rw[if_pos hk]
   simp only[Bool.and_eq_true] at h1
   exact rowB_small h1.1.1
  ·rename_i hk
   rw[if_neg hk]
   split at h1
   ·rename_i hk2
    rw[if_pos hk2]
    simp only[Bool.and_eq_true] at h1
    have:=(nameOk_len h1.1.2).2
    rw[textB_le (by omega)];omega
   ·rename_i hk2
    rw[if_neg hk2]
    split<;>simp
 unfold recB
 simp only[List.length_append,List.length_cons,wordB_len]
 omega
theorem sumB_len (t:List UInt8):(sumB t).length=t.length+2:=by unfold sumB;rw[List.length_append,wordB_len]
theorem rec_turned {t:List UInt8}{i:Nat}{y:UInt8}(hi:i<(sumB t).length) (hy:y≠(sumB t)[i]):getRec ((sumB t).set i y)=none:=by
 cases hq:getRec ((sumB t).set i y) with
 | none=>rfl
 | some x =>
  exfalso
  obtain⟨h1,h2,h3,h4,h5,h6⟩:=putRec_of hq
  have h1:(sumB t).set i y=sumB (recB x.1 x.2.1 x.2.2):=by
   rw[<-h1];unfold putRec;rw[if_pos ⟨h2,h3,h4,h5,h6⟩]
  generalize recB x.1 x.2.1 x.2.2=u at h1
  have hl:=congrArg List.length h1
  rw[List.length_set,sumB_len,sumB_len] at hl
  have hct:=crc_lt t
  have hcu:=crc_lt u
  have hi2:i<(t++wordB (crc t:Nat)).length:=hi
  have hy2:y≠(t++wordB (crc t:Nat))[i]'hi2:=hy
  unfold sumB at h1
  by_cases h7:i<t.length
  ·rw[List.set_append_left _ _ h7] at h1
   obtain⟨e1,e2⟩:=List.append_inj h1 (by rw[List.length_set];omega)
   have e3:=wordB_inj (by omega) (by omega) (by omega) (by omega) e2
   subst e1
   refine crc_set h7 (b:=y) ?_ (by omega)
   intro hh
   exact hy2 (hh.trans (List.getElem_append_left h7).symm)
  ·rw[List.set_append_right _ _ (by omega)] at h1
   obtain⟨e1,e2⟩:=List.append_inj h1 (by omega)
   subst e1
   have hj:i - t.length<(wordB (crc t:Nat)).length:=by rw[wordB_len];rw[sumB_len] at hi;omega
   have e3:((wordB (crc t:Nat)).set (i - t.length) y)[i - t.length]? = (wordB (crc t:Nat))[i - t.length]?:=by rw[e2]
   rw[List.getElem?_set_self hj,List.getElem?_eq_getElem hj] at e3
   exact hy2 ((Option.some.inj e3).trans (List.getElem_append_right (by omega)).symm)
theorem DrawGetRec_ok {x:List UInt8}(hx:B20 x):∃ c:List UInt8,F_s_DrawGetRec x=some c/\c.length<=1000:=by
 obtain⟨h,e0⟩:=l1New_ok hx
 rw[F_s_DrawGetRec_eta,e0,bnd_s]
 obtain⟨v1,s1,e1,_,_,k1⟩:=l1Below_ok (s:=(0,h)) 3 hx (Int.le_refl _)
 rw[e1,bnd_s]
 obtain⟨v2,s2,e2,_,_,k2⟩:=l1Below_ok (s:=s1) 9 hx k1
 simp only[e2,bnd_s]
 obtain⟨r,s3,e3,h3,k3⟩:=l11Draw_ok (s:=s2) hx k2
 rw[e3,bnd_s,s_PutRec ⟨h3.1.mono (by omega),Nat.le_trans h3.2 (by omega)⟩,bnd_s]
 have hp:(putRec (iAdd .i64 1 (v1:Int)) (v2:Int) r).length<=222:=by
  unfold putRec
  split
  ·rw[sumB_len];have:=recB_len (iAdd .i64 1 (v1:Int)) (v2:Int) r;omega
  ·simp
 obtain⟨v4,s4,e4,l4,k4⟩:=l1Bend_ok (s:=s3) (l:=putRec (iAdd .i64 1 (v1:Int)) (v2:Int) r) hx k3 (by omega)
 simp only[e4,bnd_s]
 obtain⟨t,s5,e5,k5⟩:=l1Once_ok (s:=s4) 6 hx k4
 simp only[e5,bnd_s]
 cases t with
 | false=>rw[cnd_f];exact⟨_,rfl,by omega⟩
 | true =>
  rw[cnd_t]
  by_cases hl:(7:Int)<v4.length
  ·rw[iGt_y (by simp only[lLen_def];omega),cnd_t]
   have es:iSub .i64 (lLen v4) 2=((v4.length - 2:Nat):Int):=by
    rw[iSub_ok (by simp only[lLen_def];omega) (by simp only[lLen_def];omega)];simp only[lLen_def];omega
   rw[es,show within 0 ((v4.length - 2:Nat):Int) (lLen v4)=true from decide_eq_true (by simp only[lLen_def];omega),chk_t]
   obtain⟨v6,s6,e6,l6,_,k6⟩:=l1Below_ok (s:=s5) 2 hx k5
   have l6:=l6 (by omega)
   rw[e6,bnd_s]
   obtain⟨v7,s7,e7,_,_,k7⟩:=l1Below_ok (s:=s6) 8 hx k6
   simp only[e7,bnd_s]
   have ea:iAdd .i64 4 (v6:Int)=((4+v6:Nat):Int):=by rw[iAdd_ok (by omega) (by omega)];omega
   rw[ea,iLt_y (by rw[nOf_n];exact Int.ofNat_lt.2 (by omega)),chk_t,idx_at (i:=4+v6) (by omega),bnd_s]
   have hf:fits 0 (nOf ((v4.length - 2:Nat):Int) - 0) (lSet v4 (0+nOf ((4+v6:Nat):Int)) (u8 (iConv .u8 (v7:Int)))).length=true:=decide_eq_true (by simp only[lSet,nOf_n,List.length_set];omega)
   rw[hf,chk_t]
   have hlt:(lTake (nOf ((v4.length - 2:Nat):Int) - 0) (lSet v4 (0+nOf ((4+v6:Nat):Int)) (u8 (iConv .u8 (v7:Int))))).length<=222:=by simp only[lTake,lSet,List.length_take,List.length_set];omega
   rw[s_Sum (by omega),bnd_s]
   have hc:=crc_lt (lTake (nOf ((v4.length - 2:Nat):Int) - 0) (lSet v4 (0+nOf ((4+v6:Nat):Int)) (u8 (iConv .u8 (v7:Int)))))
   rw[chk_t,s_PutW (by omega) (by omega) (by omega),bnd_s]
   exact⟨_,rfl,by rw[List.length_append,wordB_len];omega⟩
  ·rw[iGt_n (by simp only[lLen_def];omega),cnd_f]
   exact⟨_,rfl,by omega⟩
theorem law_Recs {x:List UInt8}(hx:x.length<=9223372036854775807):F_l_FnRecs x=some true:=by
 rw[F_l_FnRecs_eta]
 by_cases hb:1048576<x.length
 ·rw[big_y hb];rfl
 have hx:B20 x:=by unfold B20;omega
 rw[big_n (by unfold B20 at hx;omega),bnd_s,cnd_f]
 obtain⟨h,e0⟩:=l1New_ok hx
 obtain⟨g,p,r,a1,hr⟩:∃ (g p:Int) (r:Rec),F_s_DrawPutRec x=some (g,p,r)/\smC 100 r:=by
  rw[F_s_DrawPutRec_eta,e0,bnd_s]
  obtain⟨v1,s1,e1,_,k1⟩:=l1Int_ok (s:=(0,h)) [1,2,65535,65536,(-1)] hx (Int.le_refl _) (by simp)
  rw[e1,bnd_s]
  obtain⟨v2,s2,e2,_,k2⟩:=l1Int_ok (s:=s1) [0,1,40,65536] hx k1 (by simp)
  simp only[e2,bnd_s]
  obtain⟨r,s3,e3,l3,k3⟩:=l11Any_ok (s:=s2) hx k2
  rw[e3,bnd_s]
  exact⟨_,_,_,rfl,l3⟩
 obtain⟨c,a2,hc⟩:=DrawGetRec_ok hx
 obtain⟨a,s4,e4,ha,k4⟩:=l11Any_ok (s:=(0,h)) hx (Int.le_refl _)
 have a3:F_s_DrawRecOk x=some a:=by rw[F_s_DrawRecOk_eta,e0,bnd_s,e4,bnd_s]
 obtain⟨v2,q2,w2⟩:=at_ok hx 2 (by omega)
 obtain⟨v3,q3,w3⟩:=at_ok hx 3 (by omega)
 have q2:F_l_at (x,2)=some (v2:Int):=q2
 have q3:F_l_at (x,3)=some (v3:Int):=q3
 have hr2:smC 1048576 r:=hr.mono (by omega)
 have ha2:=ha.1.1
 have ha3:=ha.2
 have hr3:=hr.1.1
 have hr4:=hr.2
 rw[a1,bnd_s,i_PutRec hr2,bnd_s,a2,bnd_s,i_GetRec (by omega),bnd_s,s_GetRec (by omega),bnd_s,a3,bnd_s,bNe_r,cnd_f]
 have fin:(bnd (F_i_RecOk a) (fun z8=>(bnd (F_s_RecOk a) (fun z9=>(cnd (bNe z8 z9) (some false) (bnd (F_i_RecOk r) (fun z10=>(cnd (bNot z10) (some (iEq (lLen (putRec g p r)) 0)) (cnd (iLt g 0) (some (iEq (lLen (putRec g p r)) 0)) (cnd (iGt g 65535) (some (iEq (lLen (putRec g p r)) 0)) (cnd (iLt p 0) (some (iEq (lLen (putRec g p r)) 0)) (cnd (iGt p 65535) (some (iEq (lLen (putRec g p r)) 0)) (bnd (F_i_GetRec (putRec g p r)) (fun z11=>(cnd (bNot z11.2.2.2) (some false) (cnd (iNe z11.1 g) (some false) (cnd (iNe z11.2.1 p) (some false) (bnd (F_l_sameRec (z11.2.2.1,r)) (fun z12=>(cnd (bNot z12) (some false) (cnd (iGt (lLen (putRec g p r)) 120) (some false) (bnd (F_l_at (x,2)) (fun z13=>(chk (iNe (lLen (putRec g p r)) 0) (bnd (idx (putRec g p r) (iRem z13 (lLen (putRec g p r)))) (fun z14=>(bnd (F_l_at (x,3)) (fun z15=>(bnd (idx (putRec g p r) (iRem z13 (lLen (putRec g p r)))) (fun z16=>(bnd (F_i_GetRec (lSet (putRec g p r) (nOf (iRem z13 (lLen (putRec g p r)))) (u8 (iXor .u8 (y2i z14) (y2i (u8 (iConv .u8 (iAdd .i64 1 (iRem z15 255))))))))) (fun z17=>(some (bNot z17.2.2.2))))))))))))))))))))))))))))))))))=some true:=by
  rw[i_RecOk (by omega) (by omega),bnd_s,s_RecOk (by omega) (by omega),bnd_s,bNe_r,cnd_f,i_RecOk (by omega) (by omega),bnd_s]
  by_cases hok:recOk r=true/\0<=g/\g<=65535/\0<=p/\p<=65535
  ·obtain⟨h1,h2,h3,h4,h5⟩:=hok
   have hg:=getRec_put h1 h2 h3 h4 h5
   have hs:=recB_small (g:=g) (p:=p) h1
   have e:putRec g p r=sumB (recB g p r):=by unfold putRec;rw[if_pos ⟨h1,h2,h3,h4,h5⟩]
   rw[h1,bNot_t,cnd_f,iLt_n (by omega),cnd_f,iGt_n (by omega),cnd_f,iLt_n (by omega),cnd_f,iGt_n (by omega),cnd_f]
   rw[e] at hg ⊢
   have hl:=sumB_len (recB g p r)
   rw[i_GetRec (by omega),bnd_s,hg]
   simp only[recV,bNot_t,cnd_f,iNe_r]
   rw[sameRec_r,bnd_s,bNot_t,cnd_f,iGt_n (by rw[lLen_def];omega),cnd_f,q2,bnd_s,iNe_y (by rw[lLen_def];omega),chk_t,lLen_def,iRem_n]
   have hm:=Nat.mod_lt v2 (show 0<(sumB (recB g p r)).length by omega)
   rw[idx_at hm,bnd_s,q3,bnd_s,bnd_s,nOf_n]
   rw[show lSet (sumB (recB g p r)) (v2 % (sumB (recB g p r)).length)=fun y=>(sumB (recB g p r)).set (v2 % (sumB (recB g p r)).length) y from rfl]
   simp only
   rw[i_GetRec (by rw[List.length_set];omega),bnd_s,rec_turned hm (turn_ne _ _ w3)]
   rfl
  ·have e:putRec g p r=[]:=by unfold putRec;rw[if_neg hok]
   rw[e]
   have el:iEq (lLen ([]:List UInt8)) 0=true:=rfl
   simp only[el]
   cases hr0:recOk r with
   | false=>rw[bNot_f,cnd_t]
   | true =>
    rw[bNot_t,cnd_f]
    by_cases c1:g<0
    ·rw[iLt_y c1,cnd_t]
    rw[iLt_n (by omega),cnd_f]
    by_cases c2:65535<g
    ·rw[iGt_y c2,cnd_t]
    rw[iGt_n (by omega),cnd_f]
    by_cases c3:p<0
    ·rw[iLt_y c3,cnd_t]
    rw[iLt_n (by omega),cnd_f]
    by_cases c4:65535<p
    ·rw[iGt_y c4,cnd_t]
    exact absurd ⟨hr0,by omega,by omega,by omega,by omega⟩ hok
 cases hg:getRec c with
 | none=>simp only[recV,cnd_f];exact fin
 | some w =>
  obtain⟨g',p',y⟩:=w
  obtain⟨h1,h2,h3,h4,h5,h6⟩:=putRec_of hg
  have hy:smC 1048576 y:=by
   have:=getRec_sm c
   rw[hg] at this
   exact this.mono (by omega)
  simp only at h1
  simp only[recV,cnd_t]
  rw[i_PutRec hy,bnd_s,h1,sEq_r,bNot_t,cnd_f]
  exact fin
end
end Go.Vs
