import Derived.Test.YtmpopjdcbabchaaGreatDoorVsW5
import Derived.Test.YtmpopjdcbabchaaGreatDoorVsQuc
set_option linter.all false
namespace Go.Vs
noncomputable section
def insF {α:Type}(lt:α->α->Bool) (m:α) (s:List α×Bool) (x:α):List α×Bool :=
 let s1:=if (!s.2&&!(lt x m))=true then (s.1++[m],true) else s
 if (lt x m||lt m x)=true then (s1.1++[x],s1.2) else s1
def insR {α:Type}(lt:α->α->Bool) (l:List α) (m:α):List α:=l.filter (fun x=>lt x m)++m::l.filter (fun x=>lt m x)
def finI {α:Type}(m:α) (s:List α×Bool):List α:=if s.2=true then s.1 else s.1++[m]
structure Ord {α:Type} (lt:α->α->Bool):Prop where
 irr:∀a,lt a a=false
 tr:∀a b c,lt a b=true->lt b c=true->lt a c=true
 np:∀x m y,lt x m=false->lt x y=true->lt m y=true
section
variable {α:Type} {lt:α->α->Bool}
theorem Ord.asy (o:Ord lt){a b:α}(h:lt a b=true):lt b a=false:=by
 cases k:lt b a with
 | false=>rfl
 | true=>have:=o.tr _ _ _ h k;rw[o.irr]at this;cases this
theorem insT (m:α):∀(l:List α) (acc:List α),l.foldl (insF lt m) (acc,true)=(acc++l.filter (fun x=>lt x m||lt m x),true)
 | [],acc=>by simp
 | x::l,acc=>by
  simp only[List.foldl_cons,List.filter_cons]
  have:insF lt m (acc,true) x=if (lt x m||lt m x)=true then (acc++[x],true) else (acc,true):=by simp [insF]
  rw[this]
  split
  ·rw[insT m l];simp
  ·rw[insT m l]
theorem insMain (o:Ord lt) (m:α):∀(l:List α) (acc:List α),l.Pairwise (fun a b=>lt a b=true) ->
  finI m (l.foldl (insF lt m) (acc,false))=acc++insR lt l m
 | [],acc,_=>by simp [insR,finI]
 | x::l,acc,h=>by
  rw[List.pairwise_cons]at h
  obtain⟨hx,hl⟩:=h
  simp only[List.foldl_cons]
  cases h1:lt x m with
  | true =>
   have:insF lt m (acc,false) x=(acc++[x],false):=by simp [insF,h1]
   rw[this,insMain o m l _ hl]
   simp [insR,h1,o.asy h1]
  | false =>
   have ha:∀y∈l,lt m y=true:=fun y hy=>o.np x m y h1 (hx y hy)
   have e1:l.filter (fun x=>lt x m)=[]:=List.filter_eq_nil_iff.2 fun y hy=>by rw[o.asy (ha y hy)];simp
   have e2:l.filter (fun x=>lt m x)=l:=List.filter_eq_self.2 fun y hy=>ha y hy
   have e3:l.filter (fun x=>lt x m||lt m x)=l:=List.filter_eq_self.2 fun y hy=>by rw[ha y hy];simp
   cases h2:lt m x with
   | true =>
    have:insF lt m (acc,false) x=(acc++[m]++[x],true):=by simp [insF,h1,h2]
    rw[this,insT,e3]
    simp [insR,h1,h2,e1,e2,finI]
   | false =>
    have:insF lt m (acc,false) x=(acc++[m],true):=by simp [insF,h1,h2]
    rw[this,insT,e3]
    simp [insR,h1,h2,e1,e2,finI]
theorem insR_pw (o:Ord lt){l:List α}{m:α}(h:l.Pairwise (fun a b=>lt a b=true)):(insR lt l m).Pairwise (fun a b=>lt a b=true):=by
 unfold insR
 rw[List.pairwise_append]
 refine⟨h.filter _, ?_, ?_⟩
 ·rw[List.pairwise_cons]
  exact⟨fun b hb=>(List.mem_filter.1 hb).2,h.filter _⟩
 ·intro a ha b hb
  have h1:=(List.mem_filter.1 ha).2
  rcases List.mem_cons.1 hb with rfl|hb
  ·exact h1
  ·exact o.tr _ _ _ h1 (List.mem_filter.1 hb).2
theorem insR_mem {l:List α}{m x:α}:x∈insR lt l m ↔ (x∈l/\lt x m=true)\/x=m\/(x∈l/\lt m x=true):=by
 simp [insR,List.mem_filter]
theorem insR_idem (o:Ord lt) (l:List α) (m:α):insR lt (insR lt l m) m=insR lt l m:=by
 have e1:(insR lt l m).filter (fun x=>lt x m)=l.filter (fun x=>lt x m):=by
  unfold insR
  rw[List.filter_append,List.filter_cons,o.irr]
  have:(l.filter (fun x=>lt m x)).filter (fun x=>lt x m)=[]:=List.filter_eq_nil_iff.2 fun y hy=>by
   rw[o.asy (List.mem_filter.1 hy).2];simp
  simp [this]
 have e2:(insR lt l m).filter (fun x=>lt m x)=l.filter (fun x=>lt m x):=by
  unfold insR
  rw[List.filter_append,List.filter_cons,o.irr]
  have:(l.filter (fun x=>lt x m)).filter (fun x=>lt m x)=[]:=List.filter_eq_nil_iff.2 fun y hy=>by
   rw[o.asy (List.mem_filter.1 hy).2];simp
  simp [this]
 unfold insR at e1 e2 ⊢
 rw[e1,e2]
theorem chain_pw {ok:α->Bool}(o:Ord lt){l:List α}:chainB ok lt l=true ↔ (∀x∈l,ok x=true)/\l.Pairwise (fun a b=>lt a b=true):=by
 constructor
 ·intro h
  refine⟨fun x hx=>by obtain⟨i,hi,rfl⟩:=List.getElem_of_mem hx;exact chain_at h hi, ?_⟩
  rw[List.pairwise_iff_getElem]
  intro i j hi hj hij
  exact chain_mono o.tr h j i hij hj
 ·rintro ⟨h1,h2⟩
  rw[List.pairwise_iff_getElem]at h2
  unfold chainB
  rw[List.all_eq_true]
  intro i hi
  rw[List.mem_range]at hi
  cases i with
  | zero=>rw[chk1_0 hi];exact h1 _ (List.getElem_mem hi)
  | succ j=>rw[chk1_s hi,h1 _ (List.getElem_mem hi),h2 j (j+1) (by omega) hi (by omega)];rfl
end
theorem ord_row:Ord rowLt where
 irr a:=sLt_irr a.1
 tr a b c h1 h2:=sLt_trans (b:=b.1) h1 h2
 np x m y h1 h2:=by
  unfold rowLt at h1 h2 ⊢
  rcases sLt_tri x.1 m.1 with h|h|h
  ·rw[h]at h1;cases h1
  ·rw[<-h];exact h2
  ·exact sLt_trans h h2
theorem ord_mark:Ord markLt where
 irr a:=by simp [markLt]
 tr a b c h1 h2:=by simp only[markLt,decide_eq_true_eq]at *;omega
 np x m y h1 h2:=by simp only[markLt,decide_eq_true_eq,decide_eq_false_iff_not]at *;omega
theorem wrF_ins (r:Row):wrF r=insF rowLt r:=by
 funext s x
 unfold wrF insF rowLt
 have:sEq x.1 r.1=!(sLt x.1 r.1||sLt r.1 x.1):=by
  rcases sLt_tri x.1 r.1 with h|h|h
  ·rw[h,Bool.true_or]
   simp only[sEq,Bool.not_true,beq_eq_false_iff_ne]
   intro e;rw[e,sLt_irr]at h;cases h
  ·rw[h,sLt_irr];simp [sEq]
  ·rw[h,Bool.or_true]
   simp only[sEq,Bool.not_true,beq_eq_false_iff_ne]
   intro e;rw[e,sLt_irr]at h;cases h
 rw[this]
 cases sLt x.1 r.1<;>cases sLt r.1 x.1<;>rfl
theorem mkF_ins (m:Mark):mkF m=insF markLt m:=by
 funext s x
 unfold mkF insF markLt
 have e1:iGe x.1 m.1=!decide (x.1<m.1):=by simp only[iGe];rw[Bool.eq_iff_iff];simp
 have e2:iNe x.1 m.1=(decide (x.1<m.1)||decide (m.1<x.1)):=by
  simp only[iNe];rw[Bool.eq_iff_iff]
  simp only[bne_iff_ne,Bool.or_eq_true,decide_eq_true_eq]
  omega
 rw[e1,e2]
theorem wrR_eq {l:List Row}(h:l.Pairwise (fun a b=>rowLt a b=true)) (r:Row):wrR l r=insR rowLt l r:=by
 have:=insMain ord_row r l [] h
 have e:wrR l r=finI r ((l.take l.length).foldl (wrF r) ([],false)):=rfl
 rw[e,List.take_length,wrF_ins]
 simpa using this
theorem mkR_eq {l:List Mark}(h:l.Pairwise (fun a b=>markLt a b=true)) (m:Mark):mkR l m=insR markLt l m:=by
 have:=insMain ord_mark m l [] h
 have e:mkR l m=finI m ((l.take l.length).foldl (mkF m) ([],false)):=rfl
 rw[e,List.take_length,mkF_ins]
 simpa using this
theorem tab_mk {t:Tab}(h1:∀x∈t.1,rowOk x=true) (h2:t.1.Pairwise (fun a b=>rowLt a b=true)) (h3:∀x∈t.2.2,markOk x=true) (h4:t.2.2.Pairwise (fun a b=>markLt a b=true)) (h5:t.1.length<=8) (h6:0<=t.2.1/\t.2.1<=7):tabOk t=true:=by
 simp only[tabOk,(chain_pw ord_row).2 ⟨h1,h2⟩,(chain_pw ord_mark).2 ⟨h3,h4⟩,decide_eq_true h5,decide_eq_true h6,Bool.and_self]
theorem tab_has {t:Tab}(h:tabOk t=true):(∀x∈t.1,rowOk x=true)/\t.1.Pairwise (fun a b=>rowLt a b=true)/\(∀x∈t.2.2,markOk x=true)/\t.2.2.Pairwise (fun a b=>markLt a b=true)/\t.1.length<=8/\0<=t.2.1/\t.2.1<=7:=by
 obtain⟨o1,o2,o3,o4,o5,o6⟩:=tabOk_has h
 obtain⟨a,b⟩:=(chain_pw ord_row).1 o1
 obtain⟨c,d⟩:=(chain_pw ord_mark).1 o2
 exact⟨a,b,c,d,o3,o4,o5⟩
theorem rec_row {r:Rec}(h:recOk r=true) (k:r.1=1):rowOk r.2.1=true:=by
 simp only[recOk,Bool.and_eq_true]at h
 have:=h.1
 unfold bodyOk at this
 rw[if_pos k]at this
 simp only[Bool.and_eq_true]at this
 exact this.1.1
theorem rec_ph {r:Rec}(h:recOk r=true) (k:r.1=3):0<=r.2.2.2.1/\r.2.2.2.1<=7:=by
 simp only[recOk,Bool.and_eq_true]at h
 have:=h.1
 unfold bodyOk at this
 rw[if_neg (by omega),if_neg (by omega),if_pos k]at this
 simp only[Bool.and_eq_true,decide_eq_true_eq]at this
 exact this.2
theorem rec_mark {r:Rec}(h:recOk r=true) (k:r.2.2.2.2.1≠0):markOk r.2.2.2.2=true:=by
 simp only[recOk,Bool.and_eq_true]at h
 have:=h.2
 unfold whoOk at this
 rw[if_neg k]at this
 simp only[decide_eq_true_eq]at this
 simp only[markOk,Bool.and_eq_true,decide_eq_true_eq]
 omega
theorem next_has {t:Tab}{r:Rec}(h:tabOk t=true) (hr:recOk r=true):(∀x∈(nextT t r).1,rowOk x=true)/\(nextT t r).1.Pairwise (fun a b=>rowLt a b=true)/\(∀x∈(nextT t r).2.2,markOk x=true)/\(nextT t r).2.2.Pairwise (fun a b=>markLt a b=true)/\0<=(nextT t r).2.1/\(nextT t r).2.1<=7:=by
 obtain⟨a,b,c,d,e,f⟩:=tab_has h
 have hm:(∀x∈marksT t r,markOk x=true)/\(marksT t r).Pairwise (fun a b=>markLt a b=true):=by
  unfold marksT
  split
  ·exact⟨c,d⟩
  ·rename_i k
   rw[mkR_eq d]
   refine⟨fun x hx=>?_,insR_pw ord_mark d⟩
   rcases insR_mem.1 hx with h|h|h
   ·exact c x h.1
   ·rw[h];exact rec_mark hr k
   ·exact c x h.1
 have hb:(∀x∈(bodyT t r).1,rowOk x=true)/\(bodyT t r).1.Pairwise (fun a b=>rowLt a b=true)/\0<=(bodyT t r).2/\(bodyT t r).2<=7:=by
  unfold bodyT
  split
  ·rename_i k
   simp only
   rw[wrR_eq b]
   refine⟨fun x hx=>?_,insR_pw ord_row b,f⟩
   rcases insR_mem.1 hx with h|h|h
   ·exact a x h.1
   ·rw[h];exact rec_row hr k
   ·exact a x h.1
  ·split
   ·exact⟨fun x hx=>a x (List.mem_filter.1 hx).1,b.filter _,f⟩
   ·split
    ·rename_i k;exact⟨a,b,rec_ph hr k⟩
    ·exact⟨a,b,f⟩
 exact⟨hb.1,hb.2.1,hm.1,hm.2,hb.2.2⟩
theorem next_ok {t:Tab}{r:Rec}(h:tabOk t=true) (hr:recOk r=true):tabOk (nextT t r)=decide ((nextT t r).1.length<=8):=by
 obtain⟨a,b,c,d,e⟩:=next_has h hr
 by_cases k:(nextT t r).1.length<=8
 ·rw[decide_eq_true k];exact tab_mk a b c d k e
 ·rw[decide_eq_false k]
  cases h':tabOk (nextT t r) with
  | false=>rfl
  | true=>exact absurd (tab_has h').2.2.2.2.1 k
theorem apply_full {t:Tab}{r:Rec}(h:tabOk t=true) (hr:recOk r=true) (hf:(applyT t r).2=false):applyT t r=(t,false)/\t.1.length=8:=by
 unfold applyT at hf ⊢
 split at hf
 ·cases hf
 ·rename_i hc
  rw[if_neg hc]
  refine⟨rfl, ?_⟩
  rw[h,hr,next_ok h hr]at hc
  simp only[Bool.true_and,decide_eq_true_eq]at hc
  have h8:=(tab_has h).2.2.2.2.1
  simp only[nextT,bodyT]at hc
  split at hc
  ·have:=wrR_len t.1 r.2.1;simp only at hc;omega
  ·split at hc
   ·simp only[delR]at hc
    have:=List.length_filter_le (keepP r.2.2.1) t.1
    omega
   ·split at hc<;>simp only at hc<;>omega
theorem apply_ok {t:Tab}{r:Rec}(hf:(applyT t r).2=true):applyT t r=(nextT t r,true)/\tabOk t=true/\recOk r=true/\tabOk (nextT t r)=true:=by
 unfold applyT at hf ⊢
 split at hf
 ·rename_i hc
  rw[if_pos hc]
  simp only[Bool.and_eq_true]at hc
  exact⟨rfl,hc.1,hc.2.1,hc.2.2⟩
 ·cases hf
theorem del_idem (l:List Row) (key:List UInt8):delR (delR l key) key=delR l key:=by simp [delR]
theorem next_idem {t:Tab}{r:Rec}(h:tabOk t=true) (hr:recOk r=true):nextT (nextT t r) r=nextT t r:=by
 obtain⟨a,b,c,d,e⟩:=next_has h hr
 obtain⟨_,tb,_,td,_⟩:=tab_has h
 have hm:marksT (nextT t r) r=marksT t r:=by
  have e1:(nextT t r).2.2=marksT t r:=rfl
  rw[e1]at d
  unfold marksT at d ⊢
  split
  ·rename_i k;simp only[nextT,marksT,if_pos k]
  ·rename_i k
   rw[if_neg k]at d
   simp only[nextT,marksT,if_neg k]
   rw[mkR_eq d,mkR_eq td,insR_idem ord_mark]
 have hb:bodyT (nextT t r) r=bodyT t r:=by
  have e1:(nextT t r).1=(bodyT t r).1:=rfl
  rw[e1]at b
  unfold bodyT at b ⊢
  by_cases k1:r.1=1
  ·rw[if_pos k1]at b
   simp only[if_pos k1,nextT,bodyT]
   simp only at b
   rw[wrR_eq b,wrR_eq tb,insR_idem ord_row]
  ·by_cases k2:r.1=2
   ·simp only[if_neg k1,if_pos k2,nextT,bodyT,del_idem]
   ·by_cases k3:r.1=3
    ·simp only[if_neg k1,if_neg k2,if_pos k3,nextT,bodyT]
    ·simp only[if_neg k1,if_neg k2,if_neg k3,nextT,bodyT]
 show ((bodyT (nextT t r) r).1,((bodyT (nextT t r) r).2,marksT (nextT t r) r))=_
 rw[hb,hm];rfl
theorem rowAt_of {l:List Row}(h:l.Pairwise (fun a b=>rowLt a b=true)){y:Row}(hy:y∈l):∃(k:Nat) (hk:k<l.length),rowAt l y.1=(k:Int)/\l[k]=y:=by
 cases hf:l.findIdx? (fun r=>r.1==y.1) with
 | none =>
  rw[List.findIdx?_eq_none_iff]at hf
  have:=hf y hy
  simp at this
 | some k =>
  have hf':=hf
  rw[List.findIdx?_eq_some_iff_getElem]at hf
  obtain⟨hk,hk1,_⟩:=hf
  refine⟨k,hk,by unfold rowAt;rw[hf'], ?_⟩
  obtain⟨j,hj,rfl⟩:=List.getElem_of_mem hy
  have he:l[k].1=l[j].1:=by simpa using hk1
  rw[List.pairwise_iff_getElem]at h
  rcases Nat.lt_trichotomy k j with c|c|c
  ·have:=h k j hk hj c;unfold rowLt at this;rw[he,sLt_irr]at this;cases this
  ·subst c;rfl
  ·have:=h j k hj hk c;unfold rowLt at this;rw[he,sLt_irr]at this;cases this
theorem markAt_of {l:List Mark}(h:l.Pairwise (fun a b=>markLt a b=true)){y:Mark}(hy:y∈l):markAt l y.1=(y,true):=by
 unfold markAt
 cases hf:l.findIdx? (fun m=>decide (m.1=y.1)) with
 | none =>
  rw[List.findIdx?_eq_none_iff]at hf
  have:=hf y hy
  simp at this
 | some k =>
  rw[List.findIdx?_eq_some_iff_getElem]at hf
  obtain⟨hk,hk1,_⟩:=hf
  simp only[List.getElem?_eq_getElem hk]
  obtain⟨j,hj,rfl⟩:=List.getElem_of_mem hy
  have he:l[k].1=l[j].1:=by simpa using hk1
  rw[List.pairwise_iff_getElem]at h
  rcases Nat.lt_trichotomy k j with c|c|c
  ·have:=h k j hk hj c;simp only[markLt,decide_eq_true_eq]at this;omega
  ·subst c;rfl
  ·have:=h j k hj hk c;simp only[markLt,decide_eq_true_eq]at this;omega
end
end Go.Vs
