import Derived.Test.YtbbdcgglfmhhpaaGreatDoorVsW5
import Derived.Test.YtbbdcgglfmhhpaaGreatDoorVsQl5
set_option linter.all false
namespace Go.Vs
noncomputable section
abbrev Mark:=Int×Int×Int
abbrev Tab:=List Row×Int×List Mark
def smT (B:Nat) (t:Tab):Prop:=t.1.length<=B/\(∀r∈t.1,smR B r)/\t.2.2.length<=B
theorem smT.mono {A B:Nat}{t:Tab}(h:smT A t) (hab:A<=B):smT B t:=⟨Nat.le_trans h.1 hab,fun r hr=>(h.2.1 r hr).mono hab,Nat.le_trans h.2.2 hab⟩
theorem szRowS_ok {l:List Row}{k:Int}(h0:0<=k) (hk:k<=1048576) (hl:l.length<=9223372036854775807) (hr:∀r∈l,smR 9223372036854775807 r):SzR (Zea (l,k)) k (l.length<=1048576/\∀r∈l,smR 1048576 r):=by
 have e:Zea (l,k)=szLst Zcg (l,k):=rfl
 rw[e]
 refine (szLst_ok' (B:=1048576) h0 hk (by omega) hl (P:=smR 1048576) fun e he k h0 hk=>szRow_ok h0 hk (hr e he)).mono (Int.le_refl _) fun h=>⟨by omega,h.2⟩
theorem szTab_ok {t:Tab}{k:Int}(h0:0<=k) (hk:k<=1048576) (h:smT 9223372036854775807 t):SzR (Zeb (t,k)) k (smT 1048576 t):=by
 unfold Zeb
 refine (SzR.seq h0 (szRowS_ok h0 hk h.1 h.2.1) (Q:=t.2.2.length<=1048576) fun z hz hz2=>?_).mono (Int.le_refl _) fun h=>⟨h.1.1,h.1.2,h.2⟩
 have e:iSub .i64 z (lLen t.2.2)=z-t.2.2.length:=iSub_ok (by have:=h.2.2;simp only[lLen_def];omega) (by simp only[lLen_def];omega)
 have e2:Zfn (t.2.2,z)=cnd (iLt (iSub .i64 z (lLen t.2.2)) 0) (some (-1)) (some (iSub .i64 z (lLen t.2.2))):=rfl
 refine SzR.one hz ?_
 rw[e2]
 refine (SzR.sub (P:=True) hz (by omega) h.2.2 fun h=>by simp only[e];exact SzR.done).mono (Int.le_refl _) fun h=>by have:=h.1;omega
theorem toTab_ok {t:Tab}(h:smT 1048576 t):Zcl t=some t:=by
 have e1:Zef t.1=some t.1:=by
  have:Zef t.1=toLst Zck ([],((0,[]),((0,[]),(0,false)))) 96 t.1:=rfl
  rw[this]
  exact toLst_ok (by have:=h.1;omega) (by have:=h.1;omega) fun r hr=>toRow_ok ((h.2.1 r hr).mono (by decide))
 have e2:Zeg t.2.2=some t.2.2:=by
  have:Zeg t.2.2=toLst Zfo (0,(0,0)) 24 t.2.2:=rfl
  rw[this]
  exact toLst_ok (by have:=h.2.2;omega) (by have:=h.2.2;omega) fun r hr=>rfl
 unfold Zcl
 rw[e1,bnd_s,e2];rfl
theorem eqTab_ok {t:Tab}(h:smT 1048576 t):Zdj (t,t)=some true:=by
 have e1:Zfe (t.1,t.1)=some true:=by
  have:Zfe (t.1,t.1)=eqLst Zdi (t.1,t.1):=rfl
  rw[this]
  exact eqLst_ok (by have:=h.1;omega) fun r hr=>eqRow_ok ((h.2.1 r hr).mono (by decide))
 have e2:Zfg (t.2.2,t.2.2)=some true:=by
  have:Zfg (t.2.2,t.2.2)=eqLst Zff (t.2.2,t.2.2):=rfl
  rw[this]
  exact eqLst_ok (by have:=h.2.2;omega) fun r hr=>by unfold Zff;simp only[iNe_r,cnd_f]
 unfold Zdj
 simp only[e1,e2,bnd_s,bNot_t,cnd_f,iNe_r]
def chk1 {α:Type}(ok:α->Bool) (lt:α->α->Bool) (l:List α) (i:Nat):Bool:=match l[i]? with
 | none=>true
 | some y=>ok y&&(match i with
  | 0=>true
  | j+1=>match l[j]? with
   | some x=>lt x y
   | none=>true)
def chainB {α:Type}(ok:α->Bool) (lt:α->α->Bool) (l:List α):Bool:=(List.range l.length).all (chk1 ok lt l)
theorem chain_loop {α:Type}{ok:α->Bool}{lt:α->α->Bool}{l:List α}{step:Int->Option (Int ⊕ (Unit ⊕ Bool))}
  (hs:∀i,i<l.length->step (i:Int)=some (if chk1 ok lt l i=true then .inl ((i:Int)+1) else .inr (.inr false)))
  (he:step (l.length:Int)=some (.inr (.inl ()))):loopX step 0=some (if chainB ok lt l=true then .inl () else .inr false):=by
 obtain⟨r,h1,rfl⟩:=loop_inv (step:=step) (fun i s=>s=(i:Int)/\∀j,j<i->chk1 ok lt l j=true) l.length (fun r=>r=if chainB ok lt l=true then .inl () else .inr false) (by
  rintro i s hi ⟨rfl,h⟩
  rw[hs i hi]
  by_cases hc:chk1 ok lt l i=true
  ·left
   refine⟨_,by rw[if_pos hc],by omega,fun j hj=>?_⟩
   rcases Nat.lt_succ_iff_lt_or_eq.1 hj with a|rfl
   ·exact h j a
   ·exact hc
  ·right
   refine⟨_,by rw[if_neg hc], ?_⟩
   rw[if_neg]
   intro k
   exact hc (List.all_eq_true.1 k i (List.mem_range.2 hi))) (by
  rintro s ⟨rfl,h⟩
  refine⟨_,he, ?_⟩
  rw[if_pos]
  exact List.all_eq_true.2 fun j hj=>h j (List.mem_range.1 hj)) 0 ⟨rfl,fun j hj=>by omega⟩
 exact h1
def rowLt (x y:Row):Bool:=sLt x.1 y.1
def markOk (m:Mark):Bool:=decide (1<=m.1/\m.1<=9)&&(decide (0<=m.2.1/\m.2.1<=65535)&&decide (0<=m.2.2/\m.2.2<=6))
def markLt (x y:Mark):Bool:=decide (x.1<y.1)
def tabOk (t:Tab):Bool:=chainB rowOk rowLt t.1&&(chainB markOk markLt t.2.2&&(decide (t.1.length<=8)&&decide (0<=t.2.1/\t.2.1<=7)))
theorem chk1_0 {α:Type}{ok:α->Bool}{lt:α->α->Bool}{l:List α}(h:0<l.length):chk1 ok lt l 0=ok l[0]:=by
 unfold chk1;rw[List.getElem?_eq_getElem h];simp
theorem chk1_s {α:Type}{ok:α->Bool}{lt:α->α->Bool}{l:List α}{j:Nat}(h:j+1<l.length):chk1 ok lt l (j+1)=(ok l[j+1]&&lt l[j] l[j+1]):=by
 unfold chk1;rw[List.getElem?_eq_getElem h];simp only[List.getElem?_eq_getElem (show j<l.length by omega)]
theorem s_TabOk0 {t:Tab}(h:smT 1048576 t):loopX (Zft t) 0=some (if chainB rowOk rowLt t.1=true then .inl () else .inr false):=by
 refine chain_loop (fun i hi=>?_) ?_
 ·have hl:=h.1
  have e:Zv ((t.1[i]).1,(((t.1[i]).2.1.1,(t.1[i]).2.1.2),(((t.1[i]).2.2.1.1,(t.1[i]).2.2.1.2),((t.1[i]).2.2.2.1,(t.1[i]).2.2.2.2))))=some (rowOk t.1[i]):=s_RowOk (r:=t.1[i]) (by have:=(h.2.1 _ (List.getElem_mem hi)).1;omega)
  unfold Zft
  rw[iLt_y (by simp only[lLen_def];omega),cnd_t,idx_at hi,bnd_s,e,bnd_s]
  cases i with
  | zero =>
   rw[chk1_0 hi]
   cases hr:rowOk t.1[0] with
   | false=>rfl
   | true=>rfl
  | succ j =>
   rw[chk1_s hi]
   cases hr:rowOk t.1[j+1] with
   | false=>rfl
   | true =>
    rw[bNot_t,cnd_f,iGt_y (by omega),cnd_t,show iSub .i64 ((j+1:Nat):Int) 1=(j:Int) from by rw[iSub_ok (by omega) (by omega)];omega,idx_at (show j<t.1.length by omega),bnd_s,bnd_s]
    unfold rowLt
    cases sLt t.1[j].1 t.1[j+1].1 with
    | false=>rfl
    | true=>rw[bNot_t,cnd_f,iAdd_ok (by omega) (by omega)];rfl
 ·have hl:=h.1
  unfold Zft
  rw[iLt_n (by simp only[lLen_def];omega),cnd_f]
theorem i_TabOk0 {t:Tab}(h:smT 1048576 t):loopX (Zgh t) 0=some (if chainB rowOk rowLt t.1=true then .inl () else .inr false):=by
 refine chain_loop (fun i hi=>?_) ?_
 ·have hl:=h.1
  have e:Zba ((t.1[i]).1,(((t.1[i]).2.1.1,(t.1[i]).2.1.2),(((t.1[i]).2.2.1.1,(t.1[i]).2.2.1.2),((t.1[i]).2.2.2.1,(t.1[i]).2.2.2.2))))=some (rowOk t.1[i]):=i_RowOk (r:=t.1[i]) (by have:=(h.2.1 _ (List.getElem_mem hi)).1;omega)
  unfold Zgh
  rw[iLt_y (by simp only[lLen_def];omega),cnd_t,idx_at hi,bnd_s,e,bnd_s]
  cases i with
  | zero =>
   rw[chk1_0 hi]
   cases hr:rowOk t.1[0] with
   | false=>rfl
   | true=>rfl
  | succ j =>
   rw[chk1_s hi]
   cases hr:rowOk t.1[j+1] with
   | false=>rfl
   | true =>
    rw[bNot_t,cnd_f,iGt_y (by omega),cnd_t,show iSub .i64 ((j+1:Nat):Int) 1=(j:Int) from by rw[iSub_ok (by omega) (by omega)];omega,idx_at (show j<t.1.length by omega),bnd_s]
    unfold rowLt
    cases sLt t.1[j].1 t.1[j+1].1 with
    | false=>rfl
    | true=>rw[bNot_t,cnd_f,iAdd_ok (by omega) (by omega)];rfl
 ·have hl:=h.1
  unfold Zgh
  rw[iLt_n (by simp only[lLen_def];omega),cnd_f]
theorem s_l12Mark (m:Mark):Zcr m=some (markOk m):=by
 unfold Zcr markOk Zw
 simp only[s_In,bnd_s,cnd_and]
theorem s_TabOk1 {t:Tab}(h:smT 1048576 t):loopX (Zfu t) 0=some (if chainB markOk markLt t.2.2=true then .inl () else .inr false):=by
 refine chain_loop (fun i hi=>?_) ?_
 ·have hl:=h.2.2
  have e:Zcr (t.2.2[i].1,(t.2.2[i].2.1,t.2.2[i].2.2))=some (markOk t.2.2[i]):=s_l12Mark _
  unfold Zfu
  rw[iLt_y (by simp only[lLen_def];omega),cnd_t,idx_at hi,bnd_s,e,bnd_s]
  cases i with
  | zero =>
   rw[chk1_0 hi]
   cases hr:markOk t.2.2[0] with
   | false=>rfl
   | true=>rfl
  | succ j =>
   rw[chk1_s hi]
   cases hr:markOk t.2.2[j+1] with
   | false=>rfl
   | true =>
    rw[bNot_t,cnd_f,iGt_y (by omega),cnd_t,show iSub .i64 ((j+1:Nat):Int) 1=(j:Int) from by rw[iSub_ok (by omega) (by omega)];omega,idx_at (show j<t.2.2.length by omega),bnd_s,bnd_s]
    unfold markLt
    by_cases hlt:t.2.2[j].1<t.2.2[j+1].1
    ·rw[iGe_n (by omega),cnd_f,iAdd_ok (by omega) (by omega),decide_eq_true hlt];rfl
    ·rw[iGe_y (by omega),cnd_t,decide_eq_false hlt];rfl
 ·have hl:=h.2.2
  unfold Zfu
  rw[iLt_n (by simp only[lLen_def];omega),cnd_f]
theorem i_TabOk1 {t:Tab}(h:smT 1048576 t):loopX (Zgi t) 0=some (if chainB markOk markLt t.2.2=true then .inl () else .inr false):=by
 refine chain_loop (fun i hi=>?_) ?_
 ·have hl:=h.2.2
  unfold Zgi Zbb
  rw[iLt_y (by simp only[lLen_def];omega),cnd_t,idx_at hi,bnd_s]
  simp only[i_In,bnd_s]
  have key:∀a b c:Bool,∀rest:Option (Int ⊕ (Unit ⊕ Bool)),cnd (bNot a) (some (.inr (.inr false))) (cnd (bNot b) (some (.inr (.inr false))) (cnd (bNot c) (some (.inr (.inr false))) rest))=if (a&&(b&&c))=true then rest else some (.inr (.inr false)):=by
   intro a b c rest;cases a<;>cases b<;>cases c<;>rfl
  rw[key]
  have mk:∀m:Mark,(decide (1<=m.1/\m.1<=9)&&(decide (0<=m.2.1/\m.2.1<=65535)&&decide (0<=m.2.2/\m.2.2<=6)))=markOk m:=fun m=>rfl
  cases i with
  | zero =>
   rw[chk1_0 hi,mk]
   cases hr:markOk t.2.2[0] with
   | false=>rfl
   | true=>rfl
  | succ j =>
   rw[chk1_s hi,mk]
   cases hr:markOk t.2.2[j+1] with
   | false=>rfl
   | true =>
    rw[if_pos rfl,iGt_y (by omega),cnd_t,show iSub .i64 ((j+1:Nat):Int) 1=(j:Int) from by rw[iSub_ok (by omega) (by omega)];omega,idx_at (show j<t.2.2.length by omega),bnd_s]
    unfold markLt
    by_cases hlt:t.2.2[j].1<t.2.2[j+1].1
    ·rw[iGe_n (by omega),cnd_f,iAdd_ok (by omega) (by omega),decide_eq_true hlt];rfl
    ·rw[iGe_y (by omega),cnd_t,decide_eq_false hlt];rfl
 ·have hl:=h.2.2
  unfold Zgi
  rw[iLt_n (by simp only[lLen_def];omega),cnd_f]
theorem tab_end (a b:Bool) (n:Nat) (c:Int):(joinX (some (if a=true then .inl () else .inr false):Option (Unit ⊕ Bool)) fun _=>joinX (some (if b=true then .inl () else .inr false):Option (Unit ⊕ Bool)) fun _=>cnd (iLe (n:Int) 8) (some (decide (0<=c/\c<=7))) (some false))=some (a&&(b&&(decide (n<=8)&&decide (0<=c/\c<=7)))):=by
 rw[cnd_and,show iLe (n:Int) 8=decide (n<=8) by simp only[iLe];rw[Bool.eq_iff_iff];simp;omega]
 cases a<;>cases b<;>rfl
theorem s_TabOk {t:Tab}(h:smT 1048576 t):Zbz t=some (tabOk t):=by
 unfold Zbz tabOk
 rw[s_TabOk0 h,s_TabOk1 h]
 simp only[s_In,bnd_s,lLen_def,tab_end]
theorem i_TabOk {t:Tab}(h:smT 1048576 t):Zcf t=some (tabOk t):=by
 unfold Zcf tabOk
 rw[i_TabOk0 h,i_TabOk1 h]
 simp only[i_In,bnd_s,lLen_def,tab_end]
abbrev WrT:=Int×List UInt8
abbrev Dev:=List (List UInt8)×List WrT×Int×Bool
abbrev Store:=Dev×Tab×Int×Int
def smD (B:Nat) (d:Dev):Prop:=d.1.length<=B/\(∀s∈d.1,s.length<=B)/\d.2.1.length<=B/\∀w∈d.2.1,w.2.length<=B
def smS (B:Nat) (s:Store):Prop:=smD B s.1/\smT B s.2.1
theorem smD.mono {A B:Nat}{d:Dev}(h:smD A d) (hab:A<=B):smD B d:=⟨Nat.le_trans h.1 hab,fun s hs=>Nat.le_trans (h.2.1 s hs) hab,Nat.le_trans h.2.2.1 hab,fun w hw=>Nat.le_trans (h.2.2.2 w hw) hab⟩
theorem szDev_ok {d:Dev}{k:Int}(h0:0<=k) (hk:k<=1048576) (h:smD 9223372036854775807 d):SzR (Zdy (d,k)) k (smD 1048576 d):=by
 unfold Zdy
 have e1:Zfl (d.1,k)=szLst Zbv (d.1,k):=rfl
 have e2:∀z,Zfm (d.2.1,z)=szLst Zdx (d.2.1,z):=fun z=>rfl
 simp only[e1,e2]
 refine (SzR.seq h0 (szLst_ok' (B:=1048576) h0 hk (by omega) h.1 (P:=fun s=>s.length<=1048576) fun e he k h0 hk=>(szByteS_ok h0 (by omega) (h.2.1 e he)).mono (Int.le_refl _) fun h=>by omega) (Q:=d.2.1.length<=1048576/\∀w∈d.2.1,w.2.length<=1048576) fun z hz hz2=>?_).mono (Int.le_refl _) fun h=>⟨by have:=h.1.1;omega,h.1.2,h.2.1,h.2.2⟩
 refine SzR.one hz ((szLst_ok' (B:=1048576) hz (by omega) (by omega) h.2.2.1 (P:=fun w=>w.2.length<=1048576) fun e he k h0 hk=>?_).mono (Int.le_refl _) fun h=>⟨by have:=h.1;omega,h.2⟩)
 unfold Zdx
 exact SzR.one h0 ((szByteS_ok h0 (by omega) (h.2.2.2 e he)).mono (Int.le_refl _) fun h=>by omega)
theorem toDev_ok {d:Dev}(h:smD 1048576 d):Zci d=some d:=by
 have e1:Zec d.1=some d.1:=by
  have:Zec d.1=toLst Zbi [] 24 d.1:=rfl
  rw[this]
  exact toLst_ok (by have:=h.1;omega) (by have:=h.1;omega) fun r hr=>toByteS_ok (by have:=h.2.1 r hr;omega)
 have e2:Zee d.2.1=some d.2.1:=by
  have:Zee d.2.1=toLst Zed (0,[]) 32 d.2.1:=rfl
  rw[this]
  exact toLst_ok (by have:=h.2.2.1;omega) (by have:=h.2.2.1;omega) fun r hr=>by
   unfold Zed
   rw[toByteS_ok (by have:=h.2.2.2 r hr;omega)];rfl
 unfold Zci
 rw[e1,bnd_s,e2];rfl
theorem eqDev_ok {d:Dev}(h:smD 1048576 d):Zdg (d,d)=some true:=by
 have e1:Zfb (d.1,d.1)=some true:=by
  have:Zfb (d.1,d.1)=eqLst Zbs (d.1,d.1):=rfl
  rw[this]
  exact eqLst_ok (by have:=h.1;omega) fun r hr=>eqByteS_ok (by have:=h.2.1 r hr;omega)
 have e2:Zfd (d.2.1,d.2.1)=some true:=by
  have:Zfd (d.2.1,d.2.1)=eqLst Zfc (d.2.1,d.2.1):=rfl
  rw[this]
  exact eqLst_ok (by have:=h.2.2.1;omega) fun r hr=>by
   unfold Zfc
   simp only[iNe_r,cnd_f,eqByteS_ok (show r.2.length<9223372036854775807 by have:=h.2.2.2 r hr;omega),bnd_s,bNot_t]
 unfold Zdg
 simp only[e1,e2,bnd_s,bNot_t,cnd_f,iNe_r,bNe_r]
theorem szStore_ok {s:Store}{k:Int}(h0:0<=k) (hk:k<=1048576) (h:smS 9223372036854775807 s):SzR (Zch (s,k)) k (smS 1048576 s):=by
 unfold Zch
 refine SzR.seq h0 (szDev_ok (d:=s.1) h0 hk h.1) fun z hz hz2=>?_
 exact SzR.one hz (szTab_ok (t:=s.2.1) hz (by omega) h.2)
theorem toStore_ok {s:Store}(h:smS 1048576 s):Zl s=some s:=by
 unfold Zl
 rw[show Zci (s.1.1,(s.1.2.1,(s.1.2.2.1,s.1.2.2.2)))=some s.1 from toDev_ok h.1,bnd_s,show Zcl (s.2.1.1,(s.2.1.2.1,s.2.1.2.2))=some s.2.1 from toTab_ok h.2];rfl
theorem eqStore_ok {s:Store}(h:smS 1048576 s):Zo (s,s)=some true:=by
 have e1:Zdg ((s.1.1,(s.1.2.1,(s.1.2.2.1,s.1.2.2.2))),(s.1.1,(s.1.2.1,(s.1.2.2.1,s.1.2.2.2))))=some true:=eqDev_ok h.1
 have e2:Zdj ((s.2.1.1,(s.2.1.2.1,s.2.1.2.2)),(s.2.1.1,(s.2.1.2.1,s.2.1.2.2)))=some true:=eqTab_ok h.2
 unfold Zo
 simp only[e1,e2,bnd_s,bNot_t,cnd_f,iNe_r]
theorem smD_SmD {d:Dev}(h:smD 1048576 d):SmD d:=⟨h.1,h.2.1,Nat.le_trans h.2.2.1 (by decide),h.2.2.2⟩
def storeOk (s:Store):Bool:=devOk s.1.1 s.1.2.1 s.1.2.2.1&&(decide (s.1.1.length=62)&&((s.1.2.2.2||decide (s.1.2.1.length=0))&&(tabOk s.2.1&&(decide (1<=s.2.2.1/\s.2.2.1<=60000)&&decide (0<=s.2.2.2/\s.2.2.2<=30)))))
theorem len_eq {n k:Nat}:decide ((n:Int)=(k:Int))=decide (n=k):=by rw[Bool.eq_iff_iff];simp;omega
theorem s_StoreOk {s:Store}(h:smS 1048576 s):Zcs s=some (storeOk s):=by
 have e1:Zcp (s.1.1,(s.1.2.1,(s.1.2.2.1,s.1.2.2.2)))=some (devOk s.1.1 s.1.2.1 s.1.2.2.1):=s_DevOk (smD_SmD h.1)
 have e2:Zbz (s.2.1.1,(s.2.1.2.1,s.2.1.2.2))=some (tabOk s.2.1):=s_TabOk h.2
 unfold Zcs storeOk
 simp only[e1,e2,s_In,lLen_def,bnd_s,cnd_and,iEq_d]
 rw[show decide ((s.1.1.length:Int)=62)=decide (s.1.1.length=62) from len_eq,show decide ((s.1.2.1.length:Int)=0)=decide (s.1.2.1.length=0) from len_eq]
 generalize devOk s.1.1 s.1.2.1 s.1.2.2.1=a
 generalize decide (s.1.1.length=62)=b
 generalize decide (s.1.2.1.length=0)=c
 generalize tabOk s.2.1=d
 generalize decide (1<=s.2.2.1/\s.2.2.1<=60000)=e
 generalize decide (0<=s.2.2.2/\s.2.2.2<=30)=f
 generalize s.1.2.2.2=g
 cases a<;>cases b<;>cases c<;>cases d<;>cases g<;>rfl
theorem i_StoreOk {s:Store}(h:smS 1048576 s):Zdb s=some (storeOk s):=by
 have e1:Zy (s.1.1,(s.1.2.1,(s.1.2.2.1,s.1.2.2.2)))=some (devOk s.1.1 s.1.2.1 s.1.2.2.1):=i_DevOk (smD_SmD h.1)
 have e2:Zcf (s.2.1.1,(s.2.1.2.1,s.2.1.2.2))=some (tabOk s.2.1):=i_TabOk h.2
 unfold Zdb storeOk
 simp only[e1,e2,i_In,lLen_def,bnd_s,cnd_and,iEq_d]
 rw[show decide ((s.1.1.length:Int)=62)=decide (s.1.1.length=62) from len_eq,show decide ((s.1.2.1.length:Int)=0)=decide (s.1.2.1.length=0) from len_eq]
 generalize devOk s.1.1 s.1.2.1 s.1.2.2.1=a
 generalize decide (s.1.1.length=62)=b
 generalize decide (s.1.2.1.length=0)=c
 generalize tabOk s.2.1=d
 generalize decide (1<=s.2.2.1/\s.2.2.1<=60000)=e
 generalize decide (0<=s.2.2.2/\s.2.2.2<=30)=f
 generalize s.1.2.2.2=g
 cases a<;>cases b<;>cases c<;>cases d<;>cases g<;>rfl
def rowRec (r:Row):Rec:=(1,r,[],0,0,0,0)
def markRec (m:Mark):Rec:=(4,([],(0,[]),(0,[]),0,false),[],0,m.1,m.2.1,m.2.2)
def recsT (t:Tab):List Rec:=topRec t.2.1::(t.1.map rowRec++t.2.2.map markRec)
theorem recsT_len (t:Tab):(recsT t).length=1+t.1.length+t.2.2.length:=by simp [recsT];omega
theorem recsT_sm {t:Tab}(h:smT 1048576 t):(recsT t).length<=4194304/\∀r∈recsT t,smC 1048576 r:=by
 refine⟨by rw[recsT_len];have:=h.1;have:=h.2.2;omega, ?_⟩
 intro r hr
 simp only[recsT,List.mem_cons,List.mem_append,List.mem_map]at hr
 rcases hr with rfl|⟨q,hq,rfl⟩|⟨q,hq,rfl⟩
 ·exact⟨⟨Nat.zero_le _,Nat.zero_le _,Nat.zero_le _⟩,Nat.zero_le _⟩
 ·exact⟨h.2.1 q hq,Nat.zero_le _⟩
 ·exact⟨⟨Nat.zero_le _,Nat.zero_le _,Nat.zero_le _⟩,Nat.zero_le _⟩
theorem sRecsOf_ok {t:Tab}(h:smT 1048576 t):Zca t=some (recsT t):=by
 have h1:=h.1
 have h2:=h.2.2
 unfold Zca
 rw[app_loop (x:=t.1) (f:=rowRec) (by
  intro l i hi hl
  simp only[List.length_cons,List.length_nil]at hl
  simp (disch:=first|omega|(simp only[lLen_def];omega)) only[Zgv,iLt_y,cnd_t,idx_at,bnd_s,sCopyRow_ok (h.2.1 t.1[i] (List.getElem_mem hi)),room_ok,chk_t,iAdd_ok]
  rfl) (by
  intro l
  simp (disch:=first|omega|(simp only[lLen_def];omega)) only[Zgv,iLt_n,cnd_f])]
 simp only[joinX_l]
 rw[app_loop (x:=t.2.2) (f:=markRec) (by
  intro l i hi hl
  simp only[List.length_append,List.length_map,List.length_cons,List.length_nil]at hl
  simp (disch:=first|omega|(simp only[lLen_def];omega)) only[Zgw,iLt_y,cnd_t,idx_at,bnd_s,room_ok,chk_t,iAdd_ok]
  rfl) (by
  intro l
  simp (disch:=first|omega|(simp only[lLen_def];omega)) only[Zgw,iLt_n,cnd_f])]
 simp only[joinX_l]
 rfl
theorem iRecsOf_ok {t:Tab}(h:smT 1048576 t):Zdc t=some (recsT t):=by
 have h1:=h.1
 have h2:=h.2.2
 unfold Zdc
 rw[app_loop (x:=t.1) (f:=rowRec) (by
  intro l i hi hl
  simp only[List.length_cons,List.length_nil]at hl
  simp (disch:=first|omega|(simp only[lLen_def];omega)) only[Zhd,iLt_y,cnd_t,idx_at,bnd_s,iCopyRow_ok (h.2.1 t.1[i] (List.getElem_mem hi)),room_ok,chk_t,iAdd_ok]
  rfl) (by
  intro l
  simp (disch:=first|omega|(simp only[lLen_def];omega)) only[Zhd,iLt_n,cnd_f])]
 simp only[joinX_l]
 rw[app_loop (x:=t.2.2) (f:=markRec) (by
  intro l i hi hl
  simp only[List.length_append,List.length_map,List.length_cons,List.length_nil]at hl
  simp (disch:=first|omega|(simp only[lLen_def];omega)) only[Zhe,iLt_y,cnd_t,idx_at,bnd_s,room_ok,chk_t,iAdd_ok]
  rfl) (by
  intro l
  simp (disch:=first|omega|(simp only[lLen_def];omega)) only[Zhe,iLt_n,cnd_f])]
 simp only[joinX_l]
 rfl
end
end Go.Vs
