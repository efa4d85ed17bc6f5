import Derived.Test.YtmpopjdcbabchaaGreatDoorVsW5
import Derived.Test.YtmpopjdcbabchaaGreatDoorVsQu7
set_option linter.all false
namespace Go.Vs
noncomputable section
def rowAt (l:List Row) (key:List UInt8):Int:=match l.findIdx? (fun r=>r.1==key) with
 | some i=>(i:Int)
 | none=>-1
theorem s_RowAt {t:Tab}{key:List UInt8}(h:t.1.length<9223372036854775807):Zbq (t,key)=some (rowAt t.1 key):=by
 unfold Zbq rowAt
 exact find_loop (fun i=>(i:Int)) t.1 (fun r=>r.1==key) (fun i=>(i:Int)) (-1) (fun i hi=>by
  unfold Zfk
  simp only
  rw[iLt_y (by simp only[lLen_def];omega),cnd_t,idx_at hi,bnd_s,sEq_d,cnd_b,iAdd_1 (by omega)]) (by
  unfold Zfk
  simp only
  rw[iLt_n (by simp only[lLen_def];omega),cnd_f]) _ rfl
theorem i_RowAt {t:Tab}{key:List UInt8}(h:t.1.length<9223372036854775807):Zeh (t,key)=some (rowAt t.1 key):=by
 have e:Zeg (t.1,key)=some (rowAt t.1 key,key):=by
  unfold Zeg rowAt
  rw[show ((t.1,key).2,(0:Int))=((fun i:Nat=>(key,(i:Int))) 0) from rfl,find_loop (step:=Zef (t.1,key)) (fun i=>(key,(i:Int))) t.1 (fun r=>r.1==key) (fun i=>((i:Int),key)) (-1,key) (fun i hi=>by
   unfold Zef
   simp only
   rw[iLt_y (by simp only[lLen_def];omega),cnd_t,idx_at hi,bnd_s]
   simp only[Zfu,bnd_s,sEq_d]
   rw[cnd_b,iAdd_1 (by omega)]) (by
   unfold Zef
   simp only
   rw[iLt_n (by simp only[lLen_def];omega),cnd_f]) _ rfl]
  cases t.1.findIdx? fun r=>r.1==key<;>rfl
 unfold Zeh
 simp only[e,bnd_s]
theorem sLt_cons {x y:UInt8}{a b:List UInt8}:sLt (x::a) (y::b)=true ↔ x.toNat<y.toNat\/(x=y/\sLt a b=true):=by
 simp only[sLt,Op.bytesLess,Bool.or_eq_true,Bool.and_eq_true,decide_eq_true_eq,beq_iff_eq]
 rw[UInt8.lt_iff_toNat_lt]
theorem sLt_nil {a:List UInt8}:sLt a []=false:=by cases a<;>rfl
theorem sLt_irr:∀a:List UInt8,sLt a a=false
 | []=>rfl
 | x::a=>by
  cases h:sLt (x::a) (x::a) with
  | false=>rfl
  | true =>
   rcases sLt_cons.1 h with h|⟨_,h⟩
   ·omega
   ·rw[sLt_irr a]at h;cases h
theorem sLt_trans:∀{a b c:List UInt8},sLt a b=true->sLt b c=true->sLt a c=true:=by
 intro a
 induction a with
 | nil=>intro b c h1 h2;cases b with
  | nil=>rw[sLt_nil]at h1;cases h1
  | cons y b=>cases c with
   | nil=>rw[sLt_nil]at h2;cases h2
   | cons z c=>rfl
 | cons x a ih =>
  intro b c h1 h2
  cases b with
  | nil=>rw[sLt_nil]at h1;cases h1
  | cons y b=>cases c with
   | nil=>rw[sLt_nil]at h2;cases h2
   | cons z c =>
    rw[sLt_cons]at h1 h2 ⊢
    rcases h1 with h1|⟨rfl,h1⟩
    ·rcases h2 with h2|⟨rfl,h2⟩
     ·left;omega
     ·exact .inl h1
    ·rcases h2 with h2|⟨rfl,h2⟩
     ·exact .inl h2
     ·exact .inr ⟨rfl,ih h1 h2⟩
abbrev RowH:=List UInt8×(Int×Option (List UInt8))×(Int×Option (List UInt8))×Int×Bool
abbrev tyR:Ty:=.P .S (.P (.P (.I .i64) (.L .Y)) (.P (.P (.I .i64) (.L .Y)) (.P (.I .i64) .B)))
abbrev tyRH:Ty:=.P .S (.P (.P (.I .i64) (.H .Y)) (.P (.P (.I .i64) (.H .Y)) (.P (.I .i64) .B)))
def upR (r:Row):RowH:=(r.1,((r.2.1.1,some r.2.1.2),((r.2.2.1.1,some r.2.2.1.2),r.2.2.2)))
def goneR (r:Row):RowH:=(r.1,((r.2.1.1,none),((r.2.2.1.1,none),r.2.2.2)))
theorem cvL_up:∀l:List Row,cvL tyR tyRH l=some (l.map upR)
 | []=>rfl
 | r::l=>by
  have e:cv tyR tyRH r=some (upR r):=rfl
  simp only[cvL,e,cvL_up l,List.map_cons]
theorem cvL_dn:∀l:List Row,cvL tyRH tyR (l.map upR)=some l
 | []=>rfl
 | r::l=>by
  have e:cv tyRH tyR (upR r)=some r:=rfl
  simp only[List.map_cons,cvL,e,cvL_dn l]
def mvR (l:List Row) (k:Nat):List RowH:=mvW tyR 0 k l
theorem mvR_eq (l:List Row) (k:Nat):mvR l k=(l.take k).map goneR++(l.drop k).map upR:=by
 have e:mvR l k=(l.take k).map goneR++(l.drop (0+k)).map upR:=rfl
 rw[e,Nat.zero_add]
theorem mvR_drop (l:List Row) (k:Nat):(mvR l k).drop (k+1)=(l.drop (k+1)).map upR:=by
 rw[mvR_eq,List.drop_append,List.drop_of_length_le (by simp;omega),List.nil_append,List.length_map,List.length_take,<-List.map_drop,List.drop_drop]
 by_cases h:k<=l.length
 ·rw[Nat.min_eq_left h,show k+(k+1-k)=k+1 by omega]
 ·rw[List.drop_of_length_le (by omega),List.drop_of_length_le (by omega)]
theorem mvW_ln (l:List Row) (k:Nat) (h:k<=l.length):(mvW tyR 0 k l).length=l.length:=mvW_len tyR 0 k l (by omega)
theorem mvW_cv (l:List Row) (k n:Nat):cvL tyRH tyR (lTake n (lDrop (k+1) (mvW tyR 0 k l)))=some ((l.drop (k+1)).take n):=by
 have e:cvL tyRH tyR (((mvR l k).drop (k+1)).take n)=some ((l.drop (k+1)).take n):=by
  rw[mvR_drop,<-List.map_take,cvL_dn]
 exact e
def wrF (r:Row) (s:List Row×Bool) (x:Row):List Row×Bool :=
 let s1:=if (!s.2&&!(sLt x.1 r.1))=true then (s.1++[r],true) else s
 if sEq x.1 r.1=true then s1 else (s1.1++[x],s1.2)
def wrS (l:List Row) (r:Row) (i:Nat):List Row×Bool:=(l.take i).foldl (wrF r) ([],false)
def wrR (l:List Row) (r:Row):List Row:=if (wrS l r l.length).2=true then (wrS l r l.length).1 else (wrS l r l.length).1++[r]
def hsS (l:List Row) (r:Row) (i:Nat):List RowH:=(l.take i).map (fun x=>if sEq x.1 r.1=true then upR x else goneR x)++(l.drop i).map upR
theorem wrS_s {l:List Row}{r:Row}{i:Nat}(h:i<l.length):wrS l r (i+1)=wrF r (wrS l r i) l[i]:=by
 unfold wrS
 rw[List.take_succ_eq_append_getElem h,List.foldl_append];rfl
theorem wrS_len (l:List Row) (r:Row):∀i,i<=l.length->(wrS l r i).1.length+(if (wrS l r i).2=true then 0 else 1)<=i+1
 | 0,_=>by simp [wrS]
 | i+1,h=>by
  have ih:=wrS_len l r i (by omega)
  rw[wrS_s (by omega)]
  generalize wrS l r i=s at ih
  obtain⟨o,p⟩:=s
  unfold wrF
  cases p<;>cases sLt l[i].1 r.1<;>cases sEq l[i].1 r.1<;>simp at ih ⊢<;>omega
theorem wrS_mem (l:List Row) (r:Row):∀i,i<=l.length->∀x∈(wrS l r i).1,x=r\/x∈l
 | 0,_,x,hx=>by simp [wrS]at hx
 | i+1,h,x,hx=>by
  have ih:=wrS_mem l r i (by omega)
  rw[wrS_s (by omega)]at hx
  generalize wrS l r i=s at ih hx
  obtain⟨o,p⟩:=s
  have hm:=List.getElem_mem (show i<l.length by omega)
  have key:x∈o\/x=r\/x=l[i]:=by
   revert hx
   unfold wrF
   cases p<;>cases sLt l[i].1 r.1<;>cases sEq l[i].1 r.1<;>simp<;>intro hx<;>first|exact .inl hx|(rcases hx with h|h|h<;>simp [h])|(rcases hx with h|h<;>simp [h])
  rcases key with h|h|h
  ·exact ih x h
  ·exact .inl h
  ·exact .inr (h ▸ hm)
theorem wrR_len (l:List Row) (r:Row):(wrR l r).length<=l.length+1:=by
 have:=wrS_len l r l.length (Nat.le_refl _)
 unfold wrR
 split
 ·omega
 ·rename_i h;rw[if_neg h]at this;simp;omega
theorem wrR_mem {l:List Row}{r x:Row}(h:x∈wrR l r):x=r\/x∈l:=by
 unfold wrR at h
 split at h
 ·exact wrS_mem l r _ (Nat.le_refl _) x h
 ·rcases List.mem_append.1 h with h|h
  ·exact wrS_mem l r _ (Nat.le_refl _) x h
  ·exact .inl (by simpa using h)
theorem hsS_len {l:List Row}{r:Row}{i:Nat}(h:i<=l.length):(hsS l r i).length=l.length:=by
 simp only[hsS,List.length_append,List.length_map,List.length_take,List.length_drop];omega
theorem hsS_at {l:List Row}{r:Row}{i:Nat}(h:i<l.length):(hsS l r i)[i]? = some (upR l[i]):=by
 unfold hsS
 rw[List.getElem?_append_right (by simp;omega)]
 simp only[List.length_map,List.length_take]
 rw[show i-min i l.length=0 by omega,List.getElem?_map,List.getElem?_drop,Nat.add_zero,List.getElem?_eq_getElem h];rfl
theorem hsS_set {l:List Row}{r:Row}{i:Nat}(h:i<l.length):(hsS l r i).set i (if sEq l[i].1 r.1=true then upR l[i] else goneR l[i])=hsS l r (i+1):=by
 unfold hsS
 rw[List.set_append_right _ _ (by simp;omega),List.drop_eq_getElem_cons h,List.take_succ_eq_append_getElem h]
 simp only[List.length_map,List.length_take,List.map_cons,List.map_append,List.map_nil,List.append_assoc]
 rw[show i-min i l.length=0 by omega]
 rfl
theorem hsS_same {l:List Row}{r:Row}{i:Nat}(h:i<l.length) (he:sEq l[i].1 r.1=true):hsS l r i=hsS l r (i+1):=by
 rw[<-hsS_set h,if_pos he]
 apply List.ext_getElem?
 intro j
 rw[List.getElem?_set]
 split
 ·rename_i e;subst e
  rw[if_pos (by rw[hsS_len (by omega)];exact h)];exact hsS_at h
 ·rfl
theorem hsS_gone {l:List Row}{r:Row}{i:Nat}(h:i<l.length) (he:sEq l[i].1 r.1=false):(hsS l r i).set i (goneR l[i])=hsS l r (i+1):=by
 rw[<-hsS_set h,if_neg (by simp [he])]
theorem s_l12Row {l:List Row}{r:Row}(hl:l.length<=1048576) (hr:smR 1048576 r):Zcf (l.map upR,r)=some (wrR l r):=by
 have hc:=sCopyRow_ok hr
 have lp:loopX (Zdn (l.map upR,r)) (l.map upR,([],(false,0)))=some (.inl (wrS l r l.length)):=by
  refine loop_exact (fun i=>(hsS l r i,((wrS l r i).1,((wrS l r i).2,(i:Int))))) l.length _ (fun i hi=>?_) ?_ _ (by simp [hsS,wrS])
  ·have hln:(hsS l r i).length=l.length:=hsS_len (by omega)
   have hat:=hsS_at (r:=r) hi
   have hw:=wrS_len l r i (by omega)
   have hat2:∀X,((hsS l r i).set i X)[i]? = some X:=fun X=>List.getElem?_set_self (by omega)
   have hg:=hsS_gone (r:=r) hi
   have hsm:=hsS_same (r:=r) hi
   rw[Zdn]
   simp only[wrS_s hi,wrF]
   rw[iLt_y (by rw[lLen_def,hln];omega),cnd_t]
   simp only[idx_n,idx_ofNat,nOf_n,hat,bnd_s,lSet,hat2,List.set_set,lApp]
   generalize wrS l r i=s at hw
   obtain⟨o,p⟩:=s
   simp only at hw
   have r1:room (o.length+1) 96=true:=room_ok (by split at hw<;>omega)
   have r2:room ((o++[r]).length+1) 96=true:=room_ok (by simp;split at hw<;>omega)
   have e1:(upR l[i]).1=l[i].1:=rfl
   have e2:hSome (upR l[i]).2.1.2=true:=rfl
   have e3:hSome (upR l[i]).2.2.1.2=true:=rfl
   have e4:(l[i].1,((upR l[i]).2.1.1,hGet (upR l[i]).2.1.2),((upR l[i]).2.2.1.1,hGet (upR l[i]).2.2.1.2),(upR l[i]).2.2.2)=l[i]:=rfl
   have e5:(l[i].1,((upR l[i]).2.1.1,none),((upR l[i]).2.2.1.1,none),(upR l[i]).2.2.2)=goneR l[i]:=rfl
   simp only[e1,e2,e3,e4,e5,chk_t,hc,bnd_s,iAdd_1 (show i<9223372036854775807 by omega)]
   cases p<;>cases hlt:sLt l[i].1 r.1<;>cases heq:sEq l[i].1 r.1 <;>
    simp only[bNot_t,bNot_f,cnd_t,cnd_f,bnd_s,r1,r2,chk_t,joinX_l,Bool.not_true,Bool.not_false,Bool.and_true,Bool.and_false,Bool.true_and,Bool.false_and,if_true,Bool.false_eq_true,if_false] <;>
    first
     | rw[<-hsm heq]
     | rw[hg heq]
  ·rw[Zdn]
   simp only
   rw[iLt_n (by rw[lLen_def,hsS_len (Nat.le_refl _)];omega),cnd_f]
 rw[Zcf]
 simp only
 rw[lp,joinX_l,hc,bnd_s]
 have hw:=wrS_len l r l.length (Nat.le_refl _)
 unfold wrR
 cases hp:(wrS l r l.length).2 with
 | true=>rw[bNot_t,cnd_f,joinX_l,if_pos rfl]
 | false =>
  rw[hp]at hw
  rw[bNot_f,cnd_t,room_ok (by simp at hw;omega),chk_t,joinX_l,if_neg (by simp)];rfl
theorem i_withRow {l:List Row}{r:Row}(hl:l.length<=1048576) (hr:smR 1048576 r):Zcp (l.map upR,r)=some (wrR l r):=by
 have hc:=iCopyRow_ok hr
 have lp:loopX (Zea (l.map upR,r)) ([],(false,(l.map upR,0)))=some (.inl (wrS l r l.length)):=by
  refine loop_exact (fun i=>((wrS l r i).1,((wrS l r i).2,(hsS l r i,(i:Int))))) l.length _ (fun i hi=>?_) ?_ _ (by simp [hsS,wrS])
  ·have hln:(hsS l r i).length=l.length:=hsS_len (by omega)
   have hat:=hsS_at (r:=r) hi
   have hw:=wrS_len l r i (by omega)
   have hat2:∀X,((hsS l r i).set i X)[i]? = some X:=fun X=>List.getElem?_set_self (by omega)
   have hg:=hsS_gone (r:=r) hi
   have hsm:=hsS_same (r:=r) hi
   rw[Zea]
   simp only[wrS_s hi,wrF]
   rw[iLt_y (by rw[lLen_def,List.length_map];omega),cnd_t]
   simp only[idx_n,idx_ofNat,nOf_n,hat,bnd_s,lSet,hat2,List.set_set,lApp]
   generalize wrS l r i=s at hw
   obtain⟨o,p⟩:=s
   simp only at hw
   have r1:room (o.length+1) 96=true:=room_ok (by split at hw<;>omega)
   have r2:room ((o++[r]).length+1) 96=true:=room_ok (by simp;split at hw<;>omega)
   have e1:(upR l[i]).1=l[i].1:=rfl
   have e2:hSome (upR l[i]).2.1.2=true:=rfl
   have e3:hSome (upR l[i]).2.2.1.2=true:=rfl
   have e4:(l[i].1,((upR l[i]).2.1.1,hGet (upR l[i]).2.1.2),((upR l[i]).2.2.1.1,hGet (upR l[i]).2.2.1.2),(upR l[i]).2.2.2)=l[i]:=rfl
   have e5:(l[i].1,((upR l[i]).2.1.1,none),((upR l[i]).2.2.1.1,none),(upR l[i]).2.2.2)=goneR l[i]:=rfl
   simp only[e1,e2,e3,e4,e5,chk_t,hc,bnd_s,iAdd_1 (show i<9223372036854775807 by omega)]
   cases p<;>cases hlt:sLt l[i].1 r.1<;>cases heq:sEq l[i].1 r.1 <;>
    simp only[bNot_t,bNot_f,cnd_t,cnd_f,bnd_s,r1,r2,chk_t,joinX_l,Bool.not_true,Bool.not_false,Bool.and_true,Bool.and_false,Bool.true_and,Bool.false_and,if_true,Bool.false_eq_true,if_false] <;>
    first
     | rw[<-hsm heq]
     | rw[hg heq]
  ·rw[Zea]
   simp only
   rw[iLt_n (by rw[lLen_def,List.length_map];omega),cnd_f]
 rw[Zcp]
 simp only
 rw[lp,joinX_l,hc,bnd_s]
 have hw:=wrS_len l r l.length (Nat.le_refl _)
 unfold wrR
 cases hp:(wrS l r l.length).2 with
 | true=>rw[bNot_t,cnd_f,joinX_l,if_pos rfl]
 | false =>
  rw[hp]at hw
  rw[bNot_f,cnd_t,room_ok (by simp at hw;omega),chk_t,joinX_l,if_neg (by simp)];rfl
def keepP (key:List UInt8) (x:Row):Bool:=!(x.1==key)
def delR (l:List Row) (key:List UInt8):List Row:=l.filter (keepP key)
abbrev CapT:=Int×List UInt8×Int×Int×Int×Bool×List UInt8×Int×Int×Int×Int
def capR (r:Rec):CapT:=(r.1,(r.2.1.1,(r.2.1.2.1.1,(r.2.1.2.2.1.1,(r.2.1.2.2.2.1,(r.2.1.2.2.2.2,(r.2.2.1,(r.2.2.2.1,(r.2.2.2.2.1,(r.2.2.2.2.2.1,r.2.2.2.2.2.2))))))))))
def idxSt (r:Rec) (i:Nat):Int×List UInt8×Int×Int×Int×Bool×List UInt8×Int×Int×Int×Int×Int:=(r.1,(r.2.1.1,(r.2.1.2.1.1,(r.2.1.2.2.1.1,(r.2.1.2.2.2.1,(r.2.1.2.2.2.2,(r.2.2.1,(r.2.2.2.1,(r.2.2.2.2.1,(r.2.2.2.2.2.1,(r.2.2.2.2.2.2,(i:Int))))))))))))
theorem i_IndexDel {l:List Row}{r:Rec}(hl:l.length<=1048576):Zeb (l,r)=some (match l.findIdx? (fun x=>x.1==r.2.2.1) with|some i=>((i:Int),capR r)|none=>(-1,capR r)):=by
 rw[Zeb]
 exact find_loop (idxSt r) l (fun x=>x.1==r.2.2.1) (fun i=>((i:Int),capR r)) (-1,capR r) (fun i hi=>by
  rw[Zfs]
  simp only[idxSt,Zcq]
  rw[iLt_y (by rw[lLen_def];omega),cnd_t,idx_at hi,bnd_s,bnd_s,sEq_d,cnd_b,iAdd_1 (by omega)]
  rfl) (by
  rw[Zfs]
  simp only[idxSt]
  rw[iLt_n (by rw[lLen_def];omega),cnd_f]
  rfl) _ rfl
def delSt (r:Rec) (H:List RowH) (i:Int) (j:Int):List RowH×Int×List UInt8×Int×Int×Int×Bool×List UInt8×Int×Int×Int×Int×Int×Int:=(H,(r.1,(r.2.1.1,(r.2.1.2.1.1,(r.2.1.2.2.1.1,(r.2.1.2.2.2.1,(r.2.1.2.2.2.2,(r.2.2.1,(r.2.2.2.1,(r.2.2.2.2.1,(r.2.2.2.2.2.1,(r.2.2.2.2.2.2,(i,j)))))))))))))
def delOut (r:Rec) (H:List RowH) (i:Int):List RowH×Int×List UInt8×Int×Int×Int×Bool×List UInt8×Int×Int×Int×Int×Int:=(H,(r.1,(r.2.1.1,(r.2.1.2.1.1,(r.2.1.2.2.1.1,(r.2.1.2.2.2.1,(r.2.1.2.2.2.2,(r.2.2.1,(r.2.2.2.1,(r.2.2.2.2.1,(r.2.2.2.2.2.1,(r.2.2.2.2.2.2,i))))))))))))
def DelInv (l:List Row) (key:List UInt8) (H:List RowH) (i j:Nat):Prop:=H.length=l.length/\i<j/\j<=l.length/\i=(delR (l.take j) key).length/\H.take i=(delR (l.take j) key).map upR/\∀k,j<=k->H[k]? = (l.map upR)[k]?
theorem del_step {l:List Row}{r:Rec}{H:List RowH}{i j:Nat}(hl:l.length<=1048576) (h:DelInv l r.2.2.1 H i j) (hj:j<l.length) :
  ∃(H':List RowH) (i':Nat),Zcr (l.map upR,r) (delSt r H (i:Int) (j:Int))=some (.inl (delSt r H' (i':Int) ((j+1:Nat):Int)))/\DelInv l r.2.2.1 H' i' (j+1):=by
 obtain⟨h1,h2,h3,h4,h5,h6⟩:=h
 have hjj:H[j]? = some (upR l[j]):=by rw[h6 j (Nat.le_refl _),List.getElem?_map,List.getElem?_eq_getElem hj];rfl
 have hii:H[i]? = some (H[i]'(by omega)):=List.getElem?_eq_getElem (by omega)
 have htk:l.take (j+1)=l.take j++[l[j]]:=List.take_succ_eq_append_getElem hj
 have e1:hSome (upR l[j]).2.1.2=true:=rfl
 have e2:hSome (upR l[j]).2.2.1.2=true:=rfl
 rw[Zcr]
 simp only[delSt,Zcq]
 rw[iLt_y (by rw[lLen_def];omega),cnd_t,idx_n,hjj,bnd_s,e1,e2,chk_t,chk_t,bnd_s,sEq_d]
 have e3:(upR l[j]).1=l[j].1:=rfl
 rw[e3]
 cases hp:(l[j].1==r.2.2.1) with
 | true =>
  refine⟨H,i, ?_,h1,by omega,by omega, ?_, ?_,fun k hk=>h6 k (by omega)⟩
  ·rw[bNot_t,cnd_f,joinX_l,iAdd_1 (by omega)]
  ·rw[htk];simp only[delR,List.filter_append]at h4 ⊢
   simp [keepP,hp];exact h4
  ·rw[htk];simp only[delR,List.filter_append]at h5 ⊢
   rw[h5]
   simp [keepP,hp]
 | false =>
  refine⟨(H.set i (upR l[j])).set j (goneR l[j]),i+1, ?_,by simp [h1],by omega,by omega, ?_, ?_,fun k hk=>?_⟩
  ·have e4:nNe i j=true:=by simp [nNe];omega
   rw[bNot_f,cnd_t,idx_n,hii,bnd_s]
   simp only[nOf_n,e4,chk_t,idx_ofNat,hjj,bnd_s,nEq_r,joinX_l,lSet,iAdd_1 (show j<9223372036854775807 by omega),iAdd_1 (show i<9223372036854775807 by omega)]
   rfl
  ·rw[htk];simp only[delR,List.filter_append]at h4 ⊢
   simp [keepP,hp];exact h4
  ·have e5:(H.set i (upR l[j])).take (i+1)=H.take i++[upR l[j]]:=by
    rw[List.take_succ_eq_append_getElem (by rw[List.length_set];omega),List.take_set_of_le (Nat.le_refl i),List.getElem_set_self]
   rw[List.take_set_of_le (by omega),e5,htk]
   simp only[delR,List.filter_append]at h5 ⊢
   rw[h5]
   simp [keepP,hp]
  ·rw[List.getElem?_set_ne (by omega),List.getElem?_set_ne (by omega)]
   exact h6 k (by omega)
theorem cvL_take (H:List RowH) (L:List Row) (i n:Nat) (hi:i<=H.length) (h:H.take i=L.map upR) (z:RowH):cvL tyRH tyR (lTake (i-0) (lApp (lTake i H) (lRep n z)))=some L:=by
 have e:lTake (i-0) (lApp (lTake i H) (lRep n z))=L.map upR:=by
  simp only[lTake,lApp,Nat.sub_zero]
  rw[List.take_append_of_le_length (by simp;omega),List.take_take,Nat.min_self,h]
 rw[e,cvL_dn]
theorem i_DeleteFunc {l : List Row} {r : Rec} (hl : l.length ≤ 1048576) : Zcs (l.map upR, r) = some (delR l r.2.2.1, capR r) := by
  rw [Zcs]
  simp only
  rw [cvL_dn, bnd_s, i_IndexDel hl, bnd_s]
  cases hf : l.findIdx? (fun x => x.1 == r.2.2.1) with
  | none =>
    simp only [iEq_r, cnd_t, bnd_s]
    rw [List.findIdx?_eq_none_iff] at hf
    have : delR l r.2.2.1 = l := List.filter_eq_self.2 fun x hx => by simp [keepP, hf x hx]
    rw [this]
  | some k =>
    rw [List.findIdx?_eq_some_iff_getElem] at hf
    obtain ⟨hk, hk1, hk2⟩ := hf
    simp only
    rw [iEq_n (by omega), cnd_f]
    have hd0 : delR (l.take (k + 1)) r.2.2.1 = l.take k := by
      rw [List.take_succ_eq_append_getElem hk]
      unfold delR
      rw [List.filter_append]
      have e1 : (l.take k).filter (keepP r.2.2.1) = l.take k := List.filter_eq_self.2 fun x hx => by
        obtain ⟨j, hj, rfl⟩ := List.getElem_of_mem hx
        rw [List.length_take] at hj
        have := hk2 j (by omega)
        rw [List.getElem_take]
        simp only [keepP]
        simpa using this
      have e2 : ([l[k]] : List Row).filter (keepP r.2.2.1) = [] := by simp [keepP, hk1]
      rw [e1, e2, List.append_nil]
    obtain ⟨out, q1, i, H, rfl, q2⟩ := loop_inv (step := Zcr (l.map upR, r)) (fun n s => ∃ H i, s = delSt r H ((i : Nat) : Int) ((k + 1 + n : Nat) : Int) ∧ DelInv l r.2.2.1 H i (k + 1 + n)) (l.length - (k + 1)) (fun o => ∃ i H, o = .inl (delOut r H ((i : Nat) : Int)) ∧ DelInv l r.2.2.1 H i l.length)
      (fun n s hn hs => by
        obtain ⟨H, i, rfl, hi⟩ := hs
        obtain ⟨H', i', g1, g2⟩ := del_step hl hi (by omega)
        exact .inl ⟨_, g1, H', i', by rw [show k + 1 + (n + 1) = k + 1 + n + 1 by omega], by rw [show k + 1 + (n + 1) = k + 1 + n + 1 by omega]; exact g2⟩)
      (fun s hs => by
        obtain ⟨H, i, rfl, hi⟩ := hs
        have e : k + 1 + (l.length - (k + 1)) = l.length := by omega
        rw [e] at hi ⊢
        refine ⟨.inl (delOut r H (i : Int)), ?_, i, H, rfl, hi⟩
        rw [Zcr]
        simp only [delSt]
        rw [iLt_n (by rw [lLen_def, hi.1]; omega), cnd_f]
        rfl)
      (delSt r (l.map upR) ((k : Nat) : Int) ((k + 1 + 0 : Nat) : Int)) ⟨_, _, rfl, by simp, by omega, by omega, by rw [Nat.add_zero, hd0]; simp; omega, by rw [Nat.add_zero, hd0, List.map_take], fun _ _ => rfl⟩
    have q1' := q1
    simp only [delSt, Nat.add_zero] at q1'
    simp only [capR]
    rw [iAdd_1 (by omega), q1', joinX_l]
    obtain ⟨g1, g2, g3, g4, g5, g6⟩ := q2
    simp only [delOut]
    have c1 : within (i : Int) (lLen H) (lLen H) = true := by simp [within, lLen]; omega
    have c2 : nEq (nOf (i : Int) + (nOf (lLen H) - nOf (i : Int))) H.length = true := by
      rw [lLen_def, nOf_n, nOf_n]; simp [nEq]; omega
    have c3 : ∀ z : RowH, (lApp (lTake (nOf (i : Int)) H) (lRep (nOf (H.length : Int) - nOf (i : Int)) z)).length = H.length := fun z => by
      rw [nOf_n, nOf_n]; simp [lApp, lTake, lRep]; omega
    have c4 : within 0 (i : Int) (lLen H) = true := by simp [within, lLen]; omega
    have c5 : fits 0 (nOf (i : Int) - 0) H.length = true := by rw [nOf_n]; simp [fits]; omega
    rw [List.take_length] at g5
    rw [c1, chk_t, c2, chk_t]
    simp only [lLen_def, c3]
    rw [lLen_def] at c4
    rw [c4, chk_t, c5, chk_t]
    simp only [nOf_n]
    rw [cvL_take H (delR l r.2.2.1) i _ (by omega) g5, bnd_s]
end
end Go.Vs
