import Derived.Test.YtmpopjdcbabchaaGreatDoorVsW5
import Derived.Test.YtmpopjdcbabchaaGreatDoorVsQuc
set_option linter.all false
namespace Go.Vs
noncomputable section
def insF {α:Type}(lt:α->α->Bool) (m:α) (s:List α×Bool) (x:α):List α×Bool :=
 let s1:=if (!s.2&&!(lt x m))=true then (s.1++[m],true) else s
 if (lt x m||lt m x)=true then (s1.1++[x],s1.2) else s1
def insR {α:Type}(lt:α->α->Bool) (l:List α) (m:α):List α:=l.filter (fun x=>lt x m)++m::l.filter (fun x=>lt m x)
def finI {α:Type}(m:α) (s:List α×Bool):List α:=if s.2=true then s.1 else s.1++[m]
structure Ord {α:Type} (lt:α->α->Bool):Prop where
 irr:∀a,lt a a=false
 tr:∀a b c,lt a b=true->lt b c=true->lt a c=true
 np:∀x m y,lt x m=false->lt x y=true->lt m y=true
section
variable {α:Type} {lt:α->α->Bool}
theorem Ord.asy (o:Ord lt){a b:α}(h:lt a b=true):lt b a=false:=by
 cases k:lt b a with
 | false=>rfl
 | true=>have:=o.tr _ _ _ h k;rw[o.irr]at this;cases this
theorem insT (m:α):∀(l:List α) (acc:List α),l.foldl (insF lt m) (acc,true)=(acc++l.filter (fun x=>lt x m||lt m x),true)
 | [],acc=>by simp
 | x::l,acc=>by
  simp only[List.foldl_cons,List.filter_cons]
  have:insF lt m (acc,true) x=if (lt x m||lt m x)=true then (acc++[x],true) else (acc,true):=by simp [insF]
  rw[this]
  split
  ·rw[insT m l];simp
  ·rw[insT m l]
theorem insMain (o:Ord lt) (m:α):∀(l:List α) (acc:List α),l.Pairwise (fun a b=>lt a b=true) ->
  finI m (l.foldl (insF lt m) (acc,false))=acc++insR lt l m
 | [],acc,_=>by simp [insR,finI]
 | x::l,acc,h=>by
  rw[List.pairwise_cons]at h
  obtain⟨hx,hl⟩:=h
  simp only[List.foldl_cons]
  cases h1:lt x m with
  | true =>
   have:insF lt m (acc,false) x=(acc++[x],false):=by simp [insF,h1]
   rw[this,insMain o m l _ hl]
   simp [insR,h1,o.asy h1]
  | false =>
   have ha:∀y∈l,lt m y=true:=fun y hy=>o.np x m y h1 (hx y hy)
   have e1:l.filter (fun x=>lt x m)=[]:=List.filter_eq_nil_iff.2 fun y hy=>by rw[o.asy (ha y hy)];simp
   have e2:l.filter (fun x=>lt m x)=l:=List.filter_eq_self.2 fun y hy=>ha y hy
   have e3:l.filter (fun x=>lt x m||lt m x)=l:=List.filter_eq_self.2 fun y hy=>by rw[ha y hy];simp
   cases h2:lt m x with
   | true =>
    have:insF lt m (acc,false) x=(acc++[m]++[x],true):=by simp [insF,h1,h2]
    rw[this,insT,e3]
    simp [insR,h1,h2,e1,e2,finI]
   | false =>
    have:insF lt m (acc,false) x=(acc++[m],true):=by simp [insF,h1,h2]
    rw[this,insT,e3]
    simp [insR,h1,h2,e1,e2,finI]
theorem insR_last {l:List α}{m:α}(o:Ord lt) (h:∀x∈l,lt x m=true):insR lt l m=l++[m]:=by
 unfold insR
 rw[List.filter_eq_self.2 h,List.filter_eq_nil_iff.2 fun y hy=>by rw[o.asy (h y hy)];simp]
theorem chain_pw {ok:α->Bool}(o:Ord lt){l:List α}:chainB ok lt l=true ↔ (∀x∈l,ok x=true)/\l.Pairwise (fun a b=>lt a b=true):=by
 constructor
 ·intro h
  refine⟨fun x hx=>by obtain⟨i,hi,rfl⟩:=List.getElem_of_mem hx;exact chain_at h hi, ?_⟩
  rw[List.pairwise_iff_getElem]
  intro i j hi hj hij
  exact chain_mono o.tr h j i hij hj
 ·rintro ⟨h1,h2⟩
  rw[List.pairwise_iff_getElem]at h2
  unfold chainB
  rw[List.all_eq_true]
  intro i hi
  rw[List.mem_range]at hi
  cases i with
  | zero=>rw[chk1_0 hi];exact h1 _ (List.getElem_mem hi)
  | succ j=>rw[chk1_s hi,h1 _ (List.getElem_mem hi),h2 j (j+1) (by omega) hi (by omega)];rfl
end
theorem ord_row:Ord rowLt where
 irr a:=sLt_irr a.1
 tr a b c h1 h2:=sLt_trans (b:=b.1) h1 h2
 np x m y h1 h2:=by
  unfold rowLt at h1 h2 ⊢
  rcases sLt_tri x.1 m.1 with h|h|h
  ·rw[h]at h1;cases h1
  ·rw[<-h];exact h2
  ·exact sLt_trans h h2
theorem ord_mark:Ord markLt where
 irr a:=by simp [markLt]
 tr a b c h1 h2:=by simp only[markLt,decide_eq_true_eq]at *;omega
 np x m y h1 h2:=by simp only[markLt,decide_eq_true_eq,decide_eq_false_iff_not]at *;omega
theorem wrF_ins (r:Row):wrF r=insF rowLt r:=by
 funext s x
 unfold wrF insF rowLt
 have:sEq x.1 r.1=!(sLt x.1 r.1||sLt r.1 x.1):=by
  rcases sLt_tri x.1 r.1 with h|h|h
  ·rw[h,Bool.true_or]
   simp only[sEq,Bool.not_true,beq_eq_false_iff_ne]
   intro e;rw[e,sLt_irr]at h;cases h
  ·rw[h,sLt_irr];simp [sEq]
  ·rw[h,Bool.or_true]
   simp only[sEq,Bool.not_true,beq_eq_false_iff_ne]
   intro e;rw[e,sLt_irr]at h;cases h
 rw[this]
 cases sLt x.1 r.1<;>cases sLt r.1 x.1<;>rfl
theorem mkF_ins (m:Mark):mkF m=insF markLt m:=by
 funext s x
 unfold mkF insF markLt
 have e1:iGe x.1 m.1=!decide (x.1<m.1):=by simp only[iGe];rw[Bool.eq_iff_iff];simp
 have e2:iNe x.1 m.1=(decide (x.1<m.1)||decide (m.1<x.1)):=by
  simp only[iNe];rw[Bool.eq_iff_iff]
  simp only[bne_iff_ne,Bool.or_eq_true,decide_eq_true_eq]
  omega
 rw[e1,e2]
theorem wrR_eq {l:List Row}(h:l.Pairwise (fun a b=>rowLt a b=true)) (r:Row):wrR l r=insR rowLt l r:=by
 have:=insMain ord_row r l [] h
 have e:wrR l r=finI r ((l.take l.length).foldl (wrF r) ([],false)):=rfl
 rw[e,List.take_length,wrF_ins]
 simpa using this
theorem mkR_eq {l:List Mark}(h:l.Pairwise (fun a b=>markLt a b=true)) (m:Mark):mkR l m=insR markLt l m:=by
 have:=insMain ord_mark m l [] h
 have e:mkR l m=finI m ((l.take l.length).foldl (mkF m) ([],false)):=rfl
 rw[e,List.take_length,mkF_ins]
 simpa using this
theorem tab_mk {t:Tab}(h1:∀x∈t.1,rowOk x=true) (h2:t.1.Pairwise (fun a b=>rowLt a b=true)) (h3:∀x∈t.2.2,markOk x=true) (h4:t.2.2.Pairwise (fun a b=>markLt a b=true)) (h5:t.1.length<=8) (h6:0<=t.2.1/\t.2.1<=7):tabOk t=true:=by
 simp only[tabOk,(chain_pw ord_row).2 ⟨h1,h2⟩,(chain_pw ord_mark).2 ⟨h3,h4⟩,decide_eq_true h5,decide_eq_true h6,Bool.and_self]
theorem tab_has {t:Tab}(h:tabOk t=true):(∀x∈t.1,rowOk x=true)/\t.1.Pairwise (fun a b=>rowLt a b=true)/\(∀x∈t.2.2,markOk x=true)/\t.2.2.Pairwise (fun a b=>markLt a b=true)/\t.1.length<=8/\0<=t.2.1/\t.2.1<=7:=by
 obtain⟨o1,o2,o3,o4,o5,o6⟩:=tabOk_has h
 obtain⟨a,b⟩:=(chain_pw ord_row).1 o1
 obtain⟨c,d⟩:=(chain_pw ord_mark).1 o2
 exact⟨a,b,c,d,o3,o4,o5⟩
end
end Go.Vs
