import Derived.Test.YtbbdcgglfmhhpaaGreatDoorVsW5
import Derived.Test.YtbbdcgglfmhhpaaGreatDoorVsQl4
set_option linter.all false
namespace Go.Vs
noncomputable section
theorem Zig (x:(((List (List UInt8))×((List (Int×(List UInt8)))×(Int×Bool)))×Int)):Zdm x=((bnd (Zdk (x.1.1,x.2)) (fun z1=>(chk (nEq z1.2.length x.1.1.length) (bnd (Zdl (x.1.2.1,z1.1)) (fun z2=>(chk (nEq z2.2.length x.1.2.1.length) (chk (nEq z1.2.length x.1.1.length) (chk (nEq z2.2.length x.1.2.1.length) (some (z2.1,(z1.2,z2.2)))))))))))):=rfl
theorem Zih (x:(((List ((List UInt8)×((Int×(List UInt8))×((Int×(List UInt8))×(Int×Bool)))))×(Int×(List (Int×(Int×Int)))))×Int)):Zdq x=((bnd (Zdo (x.1.1,x.2)) (fun z1=>(chk (nEq z1.2.length x.1.1.length) (bnd (Zdp (x.1.2.2,z1.1)) (fun z2=>(chk (nEq z2.2.length x.1.2.2.length) (chk (nEq z1.2.length x.1.1.length) (chk (nEq z2.2.length x.1.2.2.length) (some (z2.1,(z1.2,z2.2)))))))))))):=rfl
theorem Zii (x:((((List (List UInt8))×((List (Int×(List UInt8)))×(Int×Bool)))×(((List ((List UInt8)×((Int×(List UInt8))×((Int×(List UInt8))×(Int×Bool)))))×(Int×(List (Int×(Int×Int)))))×(Int×Int)))×Int)):Zbt x=((bnd (Zdm (x.1.1,x.2)) (fun z1=>(chk (nEq z1.2.1.length x.1.1.1.length) (chk (nEq z1.2.2.length x.1.1.2.1.length) (bnd (Zdq (x.1.2.1,z1.1)) (fun z2=>(chk (nEq z2.2.1.length x.1.2.1.1.length) (chk (nEq z2.2.2.length x.1.2.1.2.2.length) (chk (nEq z1.2.1.length x.1.1.1.length) (chk (nEq z1.2.2.length x.1.1.2.1.length) (chk (nEq z2.2.1.length x.1.2.1.1.length) (chk (nEq z2.2.2.length x.1.2.1.2.2.length) (some (z2.1,(z1.2.1,(z1.2.2,z2.2))))))))))))))))):=rfl
theorem Zij (x:(((List (List UInt8))×((List (Int×(List UInt8)))×(Int×Bool)))×Int)):Zdt x=((bnd (Zdr (x.1.1,x.2)) (fun z1=>(cnd (iLt z1 0) (some (-1)) (bnd (Zds (x.1.2.1,z1)) (fun z2=>(cnd (iLt z2 0) (some (-1)) (some z2)))))))):=rfl
theorem Zik (x:(((List ((List UInt8)×((Int×(List UInt8))×((Int×(List UInt8))×(Int×Bool)))))×(Int×(List (Int×(Int×Int)))))×Int)):Zdw x=((bnd (Zdu (x.1.1,x.2)) (fun z1=>(cnd (iLt z1 0) (some (-1)) (bnd (Zdv (x.1.2.2,z1)) (fun z2=>(cnd (iLt z2 0) (some (-1)) (some z2)))))))):=rfl
theorem Zil (x:((((List (List UInt8))×((List (Int×(List UInt8)))×(Int×Bool)))×(((List ((List UInt8)×((Int×(List UInt8))×((Int×(List UInt8))×(Int×Bool)))))×(Int×(List (Int×(Int×Int)))))×(Int×Int)))×Int)):Zbu x=((bnd (Zdt (x.1.1,x.2)) (fun z1=>(cnd (iLt z1 0) (some (-1)) (bnd (Zdw (x.1.2.1,z1)) (fun z2=>(cnd (iLt z2 0) (some (-1)) (some z2)))))))):=rfl
theorem Zim (x:((((List (List UInt8))×((List (Int×(List UInt8)))×(Int×Bool)))×(((List ((List UInt8)×((Int×(List UInt8))×((Int×(List UInt8))×(Int×Bool)))))×(Int×(List (Int×(Int×Int)))))×(Int×Int)))×Int)):Zcd x=((bnd (Zca x.1.2.1) (fun z1=>(joinX (loopX (Zfx x z1) (x.1.1.2.1,(x.1.1.2.2.1,(x.1.1.2.2.2,0)))) (fun (z2:((List (Int×(List UInt8)))×(Int×Bool)))=>(bnd (Zs (x.1.1.1,z2)) (fun z3=>(bnd (Zcv (x.2,(lLen z1))) (fun z4=>(bnd (Zr (z3,((iRem x.2 2),z4))) (fun z5=>(bnd (Zs (z3.1,z5)) (fun z6=>(cnd (bNot z6.2.2.2) (some (z6.1,(z6.2.1,(z6.2.2.1,(z6.2.2.2,(x.1.2.1.2.1,(x.2,(lLen z1)))))))) (some (z6.1,(z6.2.1,(z6.2.2.1,(z6.2.2.2,(x.1.2.1.2.1,x.1.2.2)))))))))))))))))))):=rfl
theorem Zhr (x:((((List (List UInt8))×((List (Int×(List UInt8)))×(Int×Bool)))×(((List ((List UInt8)×((Int×(List UInt8))×((Int×(List UInt8))×(Int×Bool)))))×(Int×(List (Int×(Int×Int)))))×(Int×Int)))×Int)) (z1:(List (Int×(((List UInt8)×((Int×(List UInt8))×((Int×(List UInt8))×(Int×Bool))))×((List UInt8)×(Int×(Int×(Int×Int)))))))):Zfx x z1=(fun (z2:((List (Int×(List UInt8)))×(Int×(Bool×Int))))=>(cnd (iLt z2.2.2.2 (lLen z1)) (bnd (Zep (x.2,z2.2.2.2)) (fun z3=>(bnd (idx z1 z2.2.2.2) (fun z4=>(bnd (Zcu (x.2,(z2.2.2.2,z4))) (fun z5=>(bnd (Zr ((x.1.1.1,(z2.1,(z2.2.1,z2.2.2.1))),(z3,z5))) (fun z6=>(some (.inl (z6.1,(z6.2.1,(z6.2.2,(iAdd .i64 z2.2.2.2 1)))))))))))))) (some (.inr (.inl (z2.1,(z2.2.1,z2.2.2.1))))))):=rfl
abbrev Mk:=Int×Int×Int
abbrev StT:=Dv×(List Row×Int×List Mk)×Int×Int
def SmTb (t:List Row×Int×List Mk):Prop:=t.1.length<=1048576/\(∀r∈t.1,smR 1048576 r)/\t.2.2.length<=1048576
def SmSt (s:StT):Prop:=SmD s.1/\SmTb s.2.1
def HSc (m:Int) (e:List UInt8) (m':Int):Prop:=0<=m'/\Zbc (e,m)=some m'
theorem markSecs_ok {x:List (List UInt8)}{m:Int}(h0:0<=m) (hm:m<=1125899906842624) (hl:x.length<=1048577) (hx:∀b∈x,b.length<=1048576):∃m' x',Zdk (x,m)=some (m',x')/\Zdr (x',m)=some m'/\x'.length=x.length/\m<=m'/\m'<=m+1125899906842624:=by
 obtain⟨l',m',h1,h2,h3,h4,h5⟩:=mark_loop (H:=HSc) (K:=1048576) (x:=x) (m0:=m) (step:=Zfh) (by omega) (by omega) (by
  intro l k i hi hll hxi hk1 hk2
  have hbl:=hx x[i] (List.getElem_mem hi)
  obtain⟨m1,x1,b1,b2,b3,b4,b5⟩:=markByteS_ok (x:=x[i]) (m:=k) (by omega) (by omega) hbl
  have ho:=Eq.refl (Zfh (l,(k,(i:Int))))
  conv at ho=>rhs;simp (disch:=first|omega|(simp only[lSet_len,lLen_def];omega)) only[Zfh,iLt_y,cnd_t,idx_n,idx_ofNat,hxi,bnd_s,nOf_n,iAdd_ok,nEq_r,chk_t,b1,b3]
  exact⟨_,_,ho,⟨by omega,b2⟩,by omega,by omega⟩) (by
  intro l k hll
  simp only[Zfh]
  rw[iLt_n (by simp only[lLen_def];omega),cnd_f])
 refine⟨m',l', ?_, ?_,h3,h4,by omega⟩
 ·unfold Zdk
  simp only[h1,joinX_l,h3,nEq_r,chk_t]
 ·unfold Zdr
  simp only
  rw[held_loop (H:=HSc) (m1:=m') (by omega) h2 (by
   rintro k k' i hi ⟨q1,q2⟩
   simp only[Zhk]
   rw[iLt_y (by simp only[lLen_def];omega),cnd_t,idx_at hi,bnd_s,q2,bnd_s,iLt_n q1,cnd_f,iAdd_1 (by omega)]
   rfl) (by
   intro k
   simp only[Zhk]
   rw[iLt_n (by simp only[lLen_def];omega),cnd_f])]
  rfl
def HWr (m:Int) (e:Wr) (m':Int):Prop:=∀(x:List Wr×Int) (i:Nat),x.1.length<=4194304->i<x.1.length->x.1[i]? = some e->Zgn x (m,(i:Int))=some (.inl (m',(i:Int)+1))
theorem markWrS_ok {x:List Wr}{m:Int}(h0:0<=m) (hm:m<=2251799813685248) (hl:x.length<=1048577) (hx:∀w∈x,w.2.length<=1048576):∃m' x',Zdl (x,m)=some (m',x')/\Zds (x',m)=some m'/\x'.length=x.length/\m<=m'/\m'<=m+2251799813685248:=by
 obtain⟨l',m',h1,h2,h3,h4,h5⟩:=mark_loop (H:=HWr) (K:=2097152) (x:=x) (m0:=m) (step:=Zfi) (by omega) (by omega) (by
  intro l k i hi hll hxi hk1 hk2
  have hbl:=hx x[i] (List.getElem_mem hi)
  have hil:i<l.length:=by omega
  obtain⟨m1,x1,b1,b2,b3,b4,b5⟩:=markByteS_ok (x:=x[i].2) (m:=k+1) (by omega) (by omega) hbl
  have ho:=Eq.refl (Zfi (l,(k,(i:Int))))
  conv at ho=>rhs;simp (disch:=first|omega|(simp only[lSet_len,lLen_def];omega)) only[Zfi,iLt_y,cnd_t,idx_n,idx_ofNat,hxi,bnd_s,nOf_n,iAdd_ok,lSet_at,lSet_lSet,nEq_r,chk_t,b1,b3]
  refine⟨_,_,ho, ?_,by omega,by omega⟩
  intro y j hyl hj hy
  simp (disch:=first|omega|(simp only[lLen_def];omega)) only[Zgn,iLt_y,cnd_t,idx_n,hy,bnd_s,iAdd_ok,iNe_r,cnd_f,b2,iLt_n]) (by
  intro l k hll
  simp only[Zfi]
  rw[iLt_n (by simp only[lLen_def];omega),cnd_f])
 refine⟨m',l', ?_, ?_,h3,h4,by omega⟩
 ·unfold Zdl
  simp only[h1,joinX_l,h3,nEq_r,chk_t]
 ·unfold Zds
  simp only
  rw[held_loop (H:=HWr) (m1:=m') (by omega) h2 (fun k k' i hi h=>h _ i (by simp only;omega) hi (List.getElem?_eq_getElem hi)) (by
   intro k
   simp only[Zgn]
   rw[iLt_n (by simp only[lLen_def];omega),cnd_f])]
  rfl
theorem markText_ok {m : Int} (h : m < 9223372036854775808) : ∃ s, Zdn m = some s := by
  unfold Zdn
  by_cases h0 : m ≤ 0
  · rw [iLe_y h0]; exact ⟨_, rfl⟩
  rw [iLe_n (by omega), cnd_f]
  have hin : 0 ≤ ((m, []) : Int × List UInt8).1 ∧ ((m, []) : Int × List UInt8).1 < 2 ^ (63 - 0) ∧ ((m, []) : Int × List UInt8).2.length = 0 := by
    have e63 : (2 : Int) ^ 63 = 9223372036854775808 := by decide
    rw [Nat.sub_zero, e63]
    exact ⟨by simp only; omega, h, rfl⟩
  obtain ⟨r, h1, s, rfl, h2⟩ := loop_inv (step := Zgm)
    (fun i s => 0 ≤ s.1 ∧ s.1 < 2 ^ (63 - i) ∧ s.2.length = i) 63 (fun r => ∃ s, r = .inl s ∧ s.length ≤ 63) (by
      rintro i ⟨z, l⟩ hi ⟨a, b, c⟩
      simp only [Zgm] at a b c ⊢
      by_cases hz : 0 < z
      · rw [iGt_y hz, cnd_t, small_ok (by simp only [List.length_cons, List.length_nil]; omega), chk_t]
        left
        have e : iQuo .i64 z 10 = z.tdiv 10 := by
          have : z.tdiv 10 = z / 10 := Int.tdiv_eq_ediv_of_nonneg a
          have h63 : (2 : Int) ^ (63 - i) ≤ 2 ^ 63 := by
            have := Nat.pow_le_pow_right (n := 2) (by decide) (show 63 - i ≤ 63 by omega)
            exact_mod_cast this
          have e63 : (2 : Int) ^ 63 = 9223372036854775808 := by decide
          refine wrap_i64 ?_ ?_ <;> omega
        refine ⟨_, rfl, ?_, ?_, ?_⟩
        · simp only [e]; rw [Int.tdiv_eq_ediv_of_nonneg a]; omega
        · simp only [e]; rw [Int.tdiv_eq_ediv_of_nonneg a]
          have : (2 : Int) ^ (63 - i) = 2 * 2 ^ (63 - (i + 1)) := by
            rw [show 63 - i = (63 - (i + 1)) + 1 by omega, Int.pow_succ]; omega
          omega
        · simp only [lApp, List.length_append, List.length_cons, List.length_nil, c]; omega
      · rw [iGt_n (by omega), cnd_f]
        exact .inr ⟨_, rfl, l, rfl, by omega⟩)
    (by
      rintro ⟨z, l⟩ ⟨a, b, c⟩
      simp only [Zgm, Nat.sub_self, Int.pow_zero] at a b c ⊢
      rw [iGt_n (by omega), cnd_f]
      exact ⟨_, rfl, l, rfl, by omega⟩) (m, []) hin
  rw [h1, joinX_l, small_ok (by simp only [List.length_cons, List.length_nil]; omega)]
  exact ⟨_, rfl⟩
def HRow (m:Int) (e:Row) (m':Int):Prop:=∀(x:List Row×Int) (i:Nat),x.1.length<=4194304->i<x.1.length->x.1[i]? = some e->Zgo x (m,(i:Int))=some (.inl (m',(i:Int)+1))
theorem markRowS_ok {x:List Row}{m:Int}(h0:0<=m) (hm:m<=4503599627370496) (hl:x.length<=1048577) (hr:∀r∈x,smR 1048576 r):∃m' x',Zdo (x,m)=some (m',x')/\Zdu (x',m)=some m'/\x'.length=x.length/\m<=m'/\m'<=m+4503599627370496:=by
 obtain⟨l',m',h1,h2,h3,h4,h5⟩:=mark_loop (H:=HRow) (K:=4194304) (x:=x) (m0:=m) (step:=Zfj) (by omega) (by omega) (by
  intro l k i hi hll hx hk1 hk2
  obtain⟨a1,a2,a3⟩:=hr x[i] (List.getElem_mem hi)
  have hil:i<l.length:=by omega
  obtain⟨s1,hs1⟩:=markText_ok (m:=k) (by omega)
  obtain⟨m1,x1,b1,b2,b3,b4,b5⟩:=markByteS_ok (x:=x[i].2.1.2) (m:=k+1+1) (by omega) (by omega) a2
  obtain⟨m2,x2,c1,c2,c3,c4,c5⟩:=markByteS_ok (x:=x[i].2.2.1.2) (m:=m1+1) (by omega) (by omega) a3
  have ho:=Eq.refl (Zfj (l,(k,(i:Int))))
  conv at ho=>rhs;simp (disch:=first|omega|(simp only[lSet_len,lLen_def];omega)) only[Zfj,iLt_y,cnd_t,idx_n,idx_ofNat,hx,bnd_s,nOf_n,iAdd_ok,hs1,lSet_at,lSet_lSet,nEq_r,chk_t,b1,b3,c1,c3]
  refine⟨_,_,ho, ?_,by omega,by omega⟩
  intro y j hyl hj hy
  simp (disch:=first|omega|(simp only[lLen_def];omega)) only[Zgo,iLt_y,cnd_t,idx_n,hy,bnd_s,iAdd_ok,iNe_r,cnd_f,hs1,sEq_r,bNot_t,b2,iLt_n,c2,bNe_r]) (by
  intro l k hll
  simp only[Zfj]
  rw[iLt_n (by simp only[lLen_def];omega),cnd_f])
 refine⟨m',l', ?_, ?_,h3,h4,by omega⟩
 ·unfold Zdo
  simp only[h1,joinX_l,h3,nEq_r,chk_t]
 ·unfold Zdu
  simp only
  rw[held_loop (H:=HRow) (m1:=m') (by omega) h2 (fun k k' i hi h=>h _ i (by simp only;omega) hi (List.getElem?_eq_getElem hi)) (by
   intro k
   simp only[Zgo]
   rw[iLt_n (by simp only[lLen_def];omega),cnd_f])]
  rfl
def HMk (m:Int) (e:Mk) (m':Int):Prop:=∀(x:List Mk×Int) (i:Nat),x.1.length<=4194304->i<x.1.length->x.1[i]? = some e->Zgp x (m,(i:Int))=some (.inl (m',(i:Int)+1))
theorem markMarkS_ok {x:List Mk}{m:Int}(h0:0<=m) (hm:m<=9007199254740992) (hl:x.length<=1048577):∃m' x',Zdp (x,m)=some (m',x')/\Zdv (x',m)=some m'/\x'.length=x.length/\m<=m':=by
 obtain⟨l',m',h1,h2,h3,h4,h5⟩:=mark_loop (H:=HMk) (K:=3) (x:=x) (m0:=m) (step:=Zfk) (by omega) (by omega) (by
  intro l k i hi hll hx hk1 hk2
  have hil:i<l.length:=by omega
  have ho:=Eq.refl (Zfk (l,(k,(i:Int))))
  conv at ho=>rhs;simp (disch:=first|omega|(simp only[lSet_len,lLen_def];omega)) only[Zfk,iLt_y,cnd_t,idx_n,idx_ofNat,hx,bnd_s,nOf_n,iAdd_ok,lSet_at,lSet_lSet,nEq_r,chk_t]
  refine⟨_,_,ho, ?_,by omega,by omega⟩
  intro y j hyl hj hy
  simp (disch:=first|omega|(simp only[lLen_def];omega)) only[Zgp,iLt_y,cnd_t,idx_n,hy,bnd_s,iAdd_ok,iNe_r,cnd_f]) (by
  intro l k hll
  simp only[Zfk]
  rw[iLt_n (by simp only[lLen_def];omega),cnd_f])
 refine⟨m',l', ?_, ?_,h3,h4⟩
 ·unfold Zdp
  simp only[h1,joinX_l,h3,nEq_r,chk_t]
 ·unfold Zdv
  simp only
  rw[held_loop (H:=HMk) (m1:=m') (by omega) h2 (fun k k' i hi h=>h _ i (by simp only;omega) hi (List.getElem?_eq_getElem hi)) (by
   intro k
   simp only[Zgp]
   rw[iLt_n (by simp only[lLen_def];omega),cnd_f])]
  rfl
theorem markStore_ok {s:StT}(h:SmSt s):∃(m':Int) (x1:List (List UInt8)) (x2:List Wr) (x3:List Row) (x4:List Mk),Zbt (s,1)=some (m',(x1,(x2,(x3,x4))))/\0<=m'/\x1.length=s.1.1.length/\x2.length=s.1.2.1.length/\x3.length=s.2.1.1.length/\x4.length=s.2.1.2.2.length /\
  Zbu (((x1,(x2,s.1.2.2)),((x3,(s.2.1.2.1,x4)),s.2.2)),1)=some m':=by
 obtain⟨⟨d1,d2,d3,d4⟩,t1,t2,t3⟩:=h
 obtain⟨m1,x1,a1,a2,a3,a4,a5⟩:=markSecs_ok (x:=s.1.1) (m:=1) (by omega) (by omega) (by omega) d2
 obtain⟨m2,x2,b1,b2,b3,b4,b5⟩:=markWrS_ok (x:=s.1.2.1) (m:=m1) (by omega) (by omega) (by omega) d4
 obtain⟨m3,x3,c1,c2,c3,c4,c5⟩:=markRowS_ok (x:=s.2.1.1) (m:=m2) (by omega) (by omega) (by omega) t2
 obtain⟨m4,x4,e1,e2,e3,e4⟩:=markMarkS_ok (x:=s.2.1.2.2) (m:=m3) (by omega) (by omega) (by omega)
 refine⟨m4,x1,x2,x3,x4, ?_,by omega,a3,b3,c3,e3, ?_⟩
 ·have ed:Zdm (s.1,1)=some (m2,(x1,x2)):=by
   rw[Zig]
   simp only[a1,bnd_s,a3,nEq_r,chk_t,b1,b3]
  have et:Zdq (s.2.1,m2)=some (m4,(x3,x4)):=by
   rw[Zih]
   simp only[c1,bnd_s,c3,nEq_r,chk_t,e1,e3]
  rw[Zii]
  simp only[ed,et,bnd_s,a3,b3,c3,e3,nEq_r,chk_t]
 ·have ed:Zdt ((x1,(x2,s.1.2.2)),1)=some m2:=by
   rw[Zij]
   simp only[a2,bnd_s,b2]
   rw[iLt_n (by omega),cnd_f,iLt_n (by omega),cnd_f]
  have et:Zdw ((x3,(s.2.1.2.1,x4)),m2)=some m4:=by
   rw[Zik]
   simp only[c2,bnd_s,e2]
   rw[iLt_n (by omega),cnd_f,iLt_n (by omega),cnd_f]
  rw[Zil]
  simp only[ed,et,bnd_s]
  rw[iLt_n (by omega),cnd_f,iLt_n (by omega),cnd_f]
theorem opF_rng {f:Int}(h:-1<=f/\f<=1000):-1<=opF f/\opF f<=1000:=by unfold opF;split<;>omega
theorem wrC_dok {x:Dv}{n:Int}{b:List UInt8}(h:dOk x=true):dOk (x.1,wrC x.1 x.2.1 x.2.2.1 x.2.2.2 n b)=true:=by
 obtain⟨d1,d2,d3,d4,d5⟩:=dev_of (show devOk x.1 x.2.1 x.2.2.1=true from h)
 unfold wrC
 split
 ·exact h
 ·rename_i hc
  split
  ·exact dOk_mk d1 d2 (by simp) d4 d5
  ·refine dOk_mk d1 ?_ (opF_rng d3) d4 ?_
   ·simp only[List.length_append,List.length_singleton]
    have:¬40<=x.2.1.length:=fun h=>hc (.inr (.inr (.inr h)))
    omega
   ·intro w hw
    rcases List.mem_append.1 hw with hw|hw
    ·exact d5 w hw
    ·simp only[List.mem_singleton]at hw;subst hw
     have h1:0<=n/\n<=(x.1.length:Int)-1:=Decidable.not_not.1 fun h=>hc (.inr (.inl h))
     have h2:¬120<b.length:=fun h=>hc (.inr (.inr (.inl h)))
     exact⟨h1.1,h1.2,by simp only;omega⟩
theorem flC_dok {x:Dv}(h:dOk x=true):dOk (flC x.1 x.2.1 x.2.2.1 x.2.2.2)=true:=by
 obtain⟨d1,d2,d3,d4,d5⟩:=dev_of (show devOk x.1 x.2.1 x.2.2.1=true from h)
 unfold flC
 split
 ·exact h
 ·split
  ·exact dOk_mk d1 d2 (by simp) d4 d5
  ·refine dOk_mk ?_ (by simp) (opF_rng d3) ?_ ?_
   ·simpa using d1
   ·exact flL_mem d4 fun w hw=>(d5 w hw).2.2
   ·intro w hw;cases hw
theorem wr2 {x:Dv}{n:Int}{b:List UInt8}(h:dOk x=true) (hb:b.length<=1048576) :
  Zi (x,(n,b))=some (x.1,wrC x.1 x.2.1 x.2.2.1 x.2.2.2 n b)/\Zr (x,(n,b))=some (wrC x.1 x.2.1 x.2.2.1 x.2.2.2 n b):=by
 have hsm:=dOk_sm h
 obtain⟨d1,d2,d3,d4,d5⟩:=dev_of (show devOk x.1 x.2.1 x.2.2.1=true from h)
 constructor
 ·rw[i_WriteSec hsm hb]
  unfold wrD
  rw[wrDev_ok (show devOk x.1 x.2.1 x.2.2.1=true from h)]
 ·exact s_Write hsm d3 hb
theorem fl2 {x:Dv}(h:dOk x=true):Zk x=some (flC x.1 x.2.1 x.2.2.1 x.2.2.2)/\Zs x=some (flC x.1 x.2.1 x.2.2.1 x.2.2.2):=by
 have hsm:=dOk_sm h
 obtain⟨d1,d2,d3,d4,d5⟩:=dev_of (show devOk x.1 x.2.1 x.2.2.1=true from h)
 constructor
 ·rw[i_FlushDev hsm]
  unfold flD
  rw[flDev_ok (show devOk x.1 x.2.1 x.2.2.1=true from h)]
 ·exact s_Flush hsm d3 (fun w hw=>⟨(d5 w hw).1,(d5 w hw).2.1⟩)
def secN (g i:Int):Int:=iAdd .i64 (iAdd .i64 2 (iMul .i64 30 (iRem g 2))) i
def stp (g:Int) (rs:List Rec) (D:Dv) (i:Nat):Dv:=(D.1,wrC D.1 D.2.1 D.2.2.1 D.2.2.2 (secN g i) (putRec g i (rs.getD i (topRec 0))))
def dAt (g:Int) (rs:List Rec) (D:Dv):Nat->Dv
 | 0=>D
 | i+1=>stp g rs (dAt g rs D i) i
theorem dAt_ok {g:Int}{rs:List Rec}{D:Dv}(h:dOk D=true):∀i,dOk (dAt g rs D i)=true
 | 0=>h
 | i+1=>wrC_dok (dAt_ok h i)
theorem dAt_1 {g:Int}{rs:List Rec}{D:Dv}:∀i,(dAt g rs D i).1=D.1
 | 0=>rfl
 | i+1=>dAt_1 (D:=D) i
theorem put_len (g i:Int) (r:Rec):(putRec g i r).length<=1048576:=by
 unfold putRec sumB
 split
 ·have:=recB_len g i r
  rw[List.length_append,wordB_len];omega
 ·simp
theorem head_len (g n:Int):(headOf g n).length<=1048576:=by rw[headOf_len];split<;>omega
def layD (g:Int) (rs:List Rec) (D:Dv):Dv :=
 let d1:=dAt g rs D rs.length
 let d2:=flC d1.1 d1.2.1 d1.2.2.1 d1.2.2.2
 let d3:Dv:=(d2.1,wrC d2.1 d2.2.1 d2.2.2.1 d2.2.2.2 (iRem g 2) (headOf g rs.length))
 flC d3.1 d3.2.1 d3.2.2.1 d3.2.2.2
theorem layD_ok {g:Int}{rs:List Rec}{D:Dv}(h:dOk D=true):dOk (layD g rs D)=true:=flC_dok (x:=(_,_)) (wrC_dok (flC_dok (dAt_ok h _)))
theorem getD_at {rs:List Rec}{i:Nat}(h:i<rs.length):rs.getD i (topRec 0)=rs[i]:=by simp [h]
theorem dAt_s {g:Int}{rs:List Rec}{D:Dv}{i:Nat}(hi:i<rs.length):dAt g rs D (i+1)=((dAt g rs D i).1,wrC (dAt g rs D i).1 (dAt g rs D i).2.1 (dAt g rs D i).2.2.1 (dAt g rs D i).2.2.2 (secN g i) (putRec g i rs[i])):=by
 show stp g rs (dAt g rs D i) i=_
 unfold stp
 rw[getD_at hi]
theorem s_l13Lay {D:Dv}{T:List Row×Int×List Mk}{gp:Int×Int}{g:Int}{rs:List Rec}(hD:dOk D=true) (hR:Zca T=some rs) (hl:rs.length<=4194304) (hr:∀r∈rs,smC 1048576 r) :
  Zcd ((D,(T,gp)),g)=some ((layD g rs D).1,((layD g rs D).2.1,((layD g rs D).2.2.1,((layD g rs D).2.2.2,(T.2.1,if (layD g rs D).2.2.2=true then gp else (g,(rs.length:Int))))))):=by
 rw[Zim]
 simp only
 rw[hR,bnd_s]
 rw[show loopX (Zfx ((D,(T,gp)),g) rs) (D.2.1,(D.2.2.1,(D.2.2.2,0)))=some (.inl (dAt g rs D rs.length).2) from loop_exact (fun i=>((dAt g rs D i).2.1,((dAt g rs D i).2.2.1,((dAt g rs D i).2.2.2,(i:Int))))) rs.length _ (fun i hi=>by
   have hk:=dAt_ok (g:=g) (rs:=rs) hD i
   have h1:=dAt_1 (g:=g) (rs:=rs) (D:=D) i
   rw[Zhr]
   simp only
   rw[iLt_y (by rw[lLen_def];omega),cnd_t,show Zep (g,(i:Int))=some (secN g i) from rfl,bnd_s,idx_at hi,bnd_s,s_PutRec (hr _ (List.getElem_mem hi)),bnd_s]
   have e:∀S1,S1=(dAt g rs D i).1->Zr ((S1,(dAt g rs D i).2),(secN g i,putRec g i rs[i]))=some (wrC (dAt g rs D i).1 (dAt g rs D i).2.1 (dAt g rs D i).2.2.1 (dAt g rs D i).2.2.2 (secN g i) (putRec g i rs[i])):=by
    rintro _ rfl
    exact (wr2 (x:=dAt g rs D i) (n:=secN g i) (b:=putRec g i rs[i]) hk (put_len _ _ _)).2
   rw[show Zr ((D.1,((dAt g rs D i).2.1,((dAt g rs D i).2.2.1,(dAt g rs D i).2.2.2))),(secN g i,putRec g i rs[i]))=some (wrC (dAt g rs D i).1 (dAt g rs D i).2.1 (dAt g rs D i).2.2.1 (dAt g rs D i).2.2.2 (secN g i) (putRec g i rs[i])) from e D.1 h1.symm,bnd_s,iAdd_1 (by omega)]
   rw[dAt_s hi]) (by
   rw[Zhr]
   simp only
   rw[iLt_n (by rw[lLen_def];omega),cnd_f]) _ rfl,joinX_l]
 have hk:=dAt_ok (g:=g) (rs:=rs) hD rs.length
 have h1:=dAt_1 (g:=g) (rs:=rs) (D:=D) rs.length
 have f1:=(fl2 hk).2
 have k2:=flC_dok hk
 generalize hd2:flC (dAt g rs D rs.length).1 (dAt g rs D rs.length).2.1 (dAt g rs D rs.length).2.2.1 (dAt g rs D rs.length).2.2.2=d2 at f1 k2
 have w3:=(wr2 (x:=d2) (n:=iRem g 2) (b:=headOf g rs.length) k2 (head_len _ _)).2
 have k3:=wrC_dok (n:=iRem g 2) (b:=headOf g rs.length) k2
 have f3:=(fl2 k3).2
 have ef:∀S1,S1=(dAt g rs D rs.length).1->Zs (S1,(dAt g rs D rs.length).2)=some d2:=by
  rintro _ rfl;exact f1
 rw[ef D.1 h1.symm,bnd_s,lLen_def,s_HeadOf,bnd_s,w3,bnd_s]
 rw[show Zs (d2.1,wrC d2.1 d2.2.1 d2.2.2.1 d2.2.2.2 (iRem g 2) (headOf g (rs.length:Int)))=_ from f3,bnd_s]
 have hlay:layD g rs D=flC d2.1 (wrC d2.1 d2.2.1 d2.2.2.1 d2.2.2.2 (iRem g 2) (headOf g rs.length)).1 (wrC d2.1 d2.2.1 d2.2.2.1 d2.2.2.2 (iRem g 2) (headOf g rs.length)).2.1 (wrC d2.1 d2.2.1 d2.2.2.1 d2.2.2.2 (iRem g 2) (headOf g rs.length)).2.2:=by
  unfold layD;simp only[hd2]
 rw[<-hlay]
 cases hdn:(layD g rs D).2.2.2 with
 | true=>simp only[bNot_f,bNot_t,cnd_t,cnd_f,hdn,if_true]
 | false=>simp only[bNot_f,bNot_t,cnd_t,cnd_f,hdn];rfl
end
end Go.Vs
