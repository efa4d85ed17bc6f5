import Derived.Test.YtmpopjdcbabchaaGreatDoorVsW5
import Derived.Test.YtmpopjdcbabchaaGreatDoorVsQu6
set_option linter.all false
namespace Go.Vs
noncomputable section
abbrev Rec:=Int×Row×List UInt8×Int×Int×Int×Int
def noRow (r:Row):Bool:=r.1.isEmpty&&noCell r.2.1&&noCell r.2.2.1&&decide (r.2.2.2.1=0)&&!r.2.2.2.2
def bodyOk (k:Int) (R:Row) (key:List UInt8) (n:Int):Bool :=
 if k=1 then rowOk R&&key.isEmpty&&decide (n=0)
 else if k=2 then noRow R&&nameOk key&&decide (n=0)
 else if k=3 then noRow R&&key.isEmpty&&decide (0<=n/\n<=7)
 else if k=4 then noRow R&&key.isEmpty&&decide (n=0)
 else false
def whoOk (k who seq code:Int):Bool:=if who=0 then decide (seq=0/\code=0/\k≠4) else decide (1<=who/\who<=9/\0<=seq/\seq<=65535/\0<=code/\code<=6)
def recOk (r:Rec):Bool:=bodyOk r.1 r.2.1 r.2.2.1 r.2.2.2.1&&whoOk r.1 r.2.2.2.2.1 r.2.2.2.2.2.1 r.2.2.2.2.2.2
theorem whoOk_has {k who seq code:Int}(h:whoOk k who seq code=true):0<=who/\who<=9/\0<=seq/\seq<=65535/\0<=code/\code<=6:=by
 unfold whoOk at h
 split at h
 ·simp only[decide_eq_true_eq]at h;omega
 ·simp only[decide_eq_true_eq]at h;omega
theorem cnd_and (a b:Bool):cnd a (some b) (some false)=some (a&&b):=by cases a<;>rfl
theorem cnd_andL {ρ:Type}(a b:Bool):cnd a (some (.inl b)) (some (.inl false))=(some (.inl (a&&b)):Option (Bool ⊕ ρ)):=by cases a<;>rfl
theorem sEq_nil (l:List UInt8):sEq l []=l.isEmpty:=by cases l<;>rfl
theorem s_noRow (r:Row):Zdl r=some (noRow r):=by
 obtain⟨key,⟨ot,ob⟩,⟨nt,nb⟩,has,aside⟩:=r
 unfold Zdl noRow
 have e1:=s_l9None (ot,ob)
 have e2:=s_l9None (nt,nb)
 simp only[e1,e2,bnd_s,cnd_and,sEq_nil,iEq_d]
 congr 1
 cases aside<;>simp [bNot,Bool.and_assoc]
theorem i_noRow (r:Row):Zv ((r.1,((r.2.1.1,r.2.1.2),((r.2.2.1.1,r.2.2.1.2),(r.2.2.2.1,r.2.2.2.2)))),([],((0,[]),((0,[]),(0,false)))))=some (noRow r):=by
 obtain⟨key,⟨ot,ob⟩,⟨nt,nb⟩,has,aside⟩:=r
 unfold Zv noRow
 have e1:Zj ((ot,ob),(0,[]))=_:=i_sameZero (ot,ob)
 have e2:Zj ((nt,nb),(0,[]))=_:=i_sameZero (nt,nb)
 simp only[e1,e2,bnd_s,cnd_and,sEq_nil,iEq_d]
 congr 1
 cases aside<;>simp [bEq,Bool.and_assoc]
theorem who_s (k w sq cd:Int):cnd (decide (w=0)) (some (decide (sq=0)&&(decide (cd=0)&&iNe k 4))) (some (decide (1<=w/\w<=9)&&(decide (0<=sq/\sq<=65535)&&decide (0<=cd/\cd<=6))))=some (whoOk k w sq cd):=by
 unfold whoOk
 by_cases h:w=0
 ·rw[decide_eq_true h,cnd_t,if_pos h]
  simp only[iNe]
  congr 1
  rw[Bool.eq_iff_iff]
  simp
 ·rw[decide_eq_false h,cnd_f,if_neg h]
  congr 1
  rw[Bool.eq_iff_iff]
  simp only[Bool.and_eq_true,decide_eq_true_eq]
  omega
theorem body_s (k n:Int) (R:Row) (key:List UInt8) (f:Bool):(joinX (cnd (decide (k=1)) (some (.inl (rowOk R,(key.isEmpty,decide (n=0))))) (cnd (decide (k=2)) (some (.inl (noRow R,(nameOk key,decide (n=0))))) (cnd (decide (k=3)) (some (.inl (noRow R,(key.isEmpty,decide (0<=n/\n<=7))))) (some (.inl (noRow R,(key.isEmpty,decide (n=0))))))):Option ((Bool×Bool×Bool) ⊕ Bool)) fun z=>some (decide (1<=k/\k<=4)&&(z.1&&(z.2.1&&(z.2.2&&f)))))=some (bodyOk k R key n&&f):=by
 unfold bodyOk
 rcases (show k=1\/k=2\/k=3\/k=4\/¬(1<=k/\k<=4) by omega) with rfl|rfl|rfl|rfl|h
 ·generalize rowOk R=a;generalize key.isEmpty=b;generalize decide (n=0)=c
  cases a<;>cases b<;>cases c<;>cases f<;>rfl
 ·generalize noRow R=a;generalize nameOk key=b;generalize decide (n=0)=c
  cases a<;>cases b<;>cases c<;>cases f<;>rfl
 ·generalize noRow R=a;generalize key.isEmpty=b;generalize decide (0<=n/\n<=7)=c
  cases a<;>cases b<;>cases c<;>cases f<;>rfl
 ·generalize noRow R=a;generalize key.isEmpty=b;generalize decide (n=0)=c
  cases a<;>cases b<;>cases c<;>cases f<;>rfl
 ·rw[decide_eq_false h,decide_eq_false (show ¬k=1 by omega),decide_eq_false (show ¬k=2 by omega),decide_eq_false (show ¬k=3 by omega),if_neg (by omega),if_neg (by omega),if_neg (by omega),if_neg (by omega)]
  rfl
theorem s_RecOk {r:Rec}(h1:r.2.1.1.length<9223372036854775807) (h2:r.2.2.1.length<9223372036854775807):Zdm r=some (recOk r):=by
 obtain⟨k,⟨key,⟨ot,ob⟩,⟨nt,nb⟩,has,aside⟩,name,n,w,sq,cd⟩:=r
 simp only at h1 h2
 have e1:=s_noRow (key,((ot,ob),((nt,nb),(has,aside))))
 have e2:Zm (key,((ot,ob),((nt,nb),(has,aside))))=_:=s_RowOk (by simp only;omega)
 have e3:=s_NameOk h2
 have e4:∀x l h:Int,Zb (x,(l,h))=some (decide (l<=x/\x<=h)):=s_In
 unfold Zdm recOk Zfj Zcd
 simp only[e1,e2,e3,e4,bnd_s,cnd_and,sEq_nil,iEq_d,who_s,body_s]
theorem body_i (k n w:Int) (R:Row) (key:List UInt8):cnd (decide (k=1)) (some (.inl (rowOk R&&(key.isEmpty&&decide (n=0))))) (cnd (decide (k=2)) (some (.inl (noRow R&&(nameOk key&&decide (n=0))))) (cnd (decide (k=3)) (some (.inl (noRow R&&(key.isEmpty&&decide (0<=n/\n<=7))))) (some (.inl (decide (k=4)&&(noRow R&&(key.isEmpty&&(decide (n=0)&&iNe w 0))))))))=(some (.inl (bodyOk k R key n&&!(decide (k=4/\w=0)))):Option (Bool ⊕ Bool)):=by
 unfold bodyOk
 rcases (show k=1\/k=2\/k=3\/k=4\/¬(1<=k/\k<=4) by omega) with rfl|rfl|rfl|rfl|h
 ·generalize rowOk R=a;generalize key.isEmpty=b;generalize decide (n=0)=c
  rw[decide_eq_false (show ¬((1:Int)=4/\w=0) by omega)]
  cases a<;>cases b<;>cases c<;>rfl
 ·generalize noRow R=a;generalize nameOk key=b;generalize decide (n=0)=c
  rw[decide_eq_false (show ¬((2:Int)=4/\w=0) by omega)]
  cases a<;>cases b<;>cases c<;>rfl
 ·generalize noRow R=a;generalize key.isEmpty=b;generalize decide (0<=n/\n<=7)=c
  rw[decide_eq_false (show ¬((3:Int)=4/\w=0) by omega)]
  cases a<;>cases b<;>cases c<;>rfl
 ·generalize noRow R=a;generalize key.isEmpty=b;generalize decide (n=0)=c
  rw[show decide ((4:Int)=4/\w=0)=!iNe w 0 by rw[Bool.eq_iff_iff];simp [iNe]]
  generalize iNe w 0=d
  cases a<;>cases b<;>cases c<;>cases d<;>rfl
 ·rw[decide_eq_false (show ¬k=1 by omega),decide_eq_false (show ¬k=2 by omega),decide_eq_false (show ¬k=3 by omega),decide_eq_false (show ¬k=4 by omega),if_neg (by omega),if_neg (by omega),if_neg (by omega),if_neg (by omega)]
  rfl
theorem who_i (k w sq cd:Int) (b:Bool):cnd (decide (w=0)) (some ((b&&!(decide (k=4/\w=0)))&&(decide (sq=0)&&decide (cd=0)))) (some ((b&&!(decide (k=4/\w=0)))&&(decide (1<=w/\w<=9)&&(decide (0<=sq/\sq<=65535)&&decide (0<=cd/\cd<=6)))))=some (b&&whoOk k w sq cd):=by
 unfold whoOk
 by_cases h:w=0
 ·rw[decide_eq_true h,cnd_t,if_pos h]
  congr 1
  rw[Bool.and_assoc];congr 1
  rw[Bool.eq_iff_iff]
  simp only[Bool.and_eq_true,decide_eq_true_eq,Bool.not_eq_true',decide_eq_false_iff_not]
  omega
 ·rw[decide_eq_false h,cnd_f,if_neg h]
  congr 1
  rw[Bool.and_assoc];congr 1
  rw[Bool.eq_iff_iff]
  simp only[Bool.and_eq_true,decide_eq_true_eq,Bool.not_eq_true',decide_eq_false_iff_not]
  omega
theorem i_RecOk {r:Rec}(h1:r.2.1.1.length<9223372036854775807) (h2:r.2.2.1.length<9223372036854775807):Zdx r=some (recOk r):=by
 obtain⟨k,⟨key,⟨ot,ob⟩,⟨nt,nb⟩,has,aside⟩,name,n,w,sq,cd⟩:=r
 simp only at h1 h2
 have e1:=i_noRow (key,((ot,ob),((nt,nb),(has,aside))))
 have e2:Zbj (key,((ot,ob),((nt,nb),(has,aside))))=_:=i_RowOk (by simp only;omega)
 have e3:=i_NameOk h2
 have e4:∀x l h:Int,Zg (x,(l,h))=some (decide (l<=x/\x<=h)):=i_In
 simp only at e1
 unfold Zdx recOk Zco
 simp only[e1,e2,e3,e4,bnd_s,cnd_and,cnd_andL,sEq_nil,iEq_d,body_i,joinX_l,who_i]
def smC (B:Nat) (r:Rec):Prop:=smR B r.2.1/\r.2.2.1.length<=B
theorem smC.mono {A B:Nat}{r:Rec}(h:smC A r) (hab:A<=B):smC B r:=⟨h.1.mono hab,Nat.le_trans h.2 hab⟩
abbrev Mark:=Int×Int×Int
abbrev Tab:=List Row×Int×List Mark
def smT (B:Nat) (t:Tab):Prop:=t.1.length<=B/\(∀r∈t.1,smR B r)/\t.2.2.length<=B
theorem smT.mono {A B:Nat}{t:Tab}(h:smT A t) (hab:A<=B):smT B t:=⟨Nat.le_trans h.1 hab,fun r hr=>(h.2.1 r hr).mono hab,Nat.le_trans h.2.2 hab⟩
def chk1 {α:Type}(ok:α->Bool) (lt:α->α->Bool) (l:List α) (i:Nat):Bool:=match l[i]? with
 | none=>true
 | some y=>ok y&&(match i with
  | 0=>true
  | j+1=>match l[j]? with
   | some x=>lt x y
   | none=>true)
def chainB {α:Type}(ok:α->Bool) (lt:α->α->Bool) (l:List α):Bool:=(List.range l.length).all (chk1 ok lt l)
theorem chain_loop {α:Type}{ok:α->Bool}{lt:α->α->Bool}{l:List α}{step:Int->Option (Int ⊕ (Unit ⊕ Bool))}
  (hs:∀i,i<l.length->step (i:Int)=some (if chk1 ok lt l i=true then .inl ((i:Int)+1) else .inr (.inr false)))
  (he:step (l.length:Int)=some (.inr (.inl ()))):loopX step 0=some (if chainB ok lt l=true then .inl () else .inr false):=by
 obtain⟨r,h1,rfl⟩:=loop_inv (step:=step) (fun i s=>s=(i:Int)/\∀j,j<i->chk1 ok lt l j=true) l.length (fun r=>r=if chainB ok lt l=true then .inl () else .inr false) (by
  rintro i s hi ⟨rfl,h⟩
  rw[hs i hi]
  by_cases hc:chk1 ok lt l i=true
  ·left
   refine⟨_,by rw[if_pos hc],by omega,fun j hj=>?_⟩
   rcases Nat.lt_succ_iff_lt_or_eq.1 hj with a|rfl
   ·exact h j a
   ·exact hc
  ·right
   refine⟨_,by rw[if_neg hc], ?_⟩
   rw[if_neg]
   intro k
   exact hc (List.all_eq_true.1 k i (List.mem_range.2 hi))) (by
  rintro s ⟨rfl,h⟩
  refine⟨_,he, ?_⟩
  rw[if_pos]
  exact List.all_eq_true.2 fun j hj=>h j (List.mem_range.1 hj)) 0 ⟨rfl,fun j hj=>by omega⟩
 exact h1
def rowLt (x y:Row):Bool:=sLt x.1 y.1
def markOk (m:Mark):Bool:=decide (1<=m.1/\m.1<=9)&&(decide (0<=m.2.1/\m.2.1<=65535)&&decide (0<=m.2.2/\m.2.2<=6))
def markLt (x y:Mark):Bool:=decide (x.1<y.1)
def tabOk (t:Tab):Bool:=chainB rowOk rowLt t.1&&(chainB markOk markLt t.2.2&&(decide (t.1.length<=8)&&decide (0<=t.2.1/\t.2.1<=7)))
theorem chk1_0 {α:Type}{ok:α->Bool}{lt:α->α->Bool}{l:List α}(h:0<l.length):chk1 ok lt l 0=ok l[0]:=by
 unfold chk1;rw[List.getElem?_eq_getElem h];simp
theorem chk1_s {α:Type}{ok:α->Bool}{lt:α->α->Bool}{l:List α}{j:Nat}(h:j+1<l.length):chk1 ok lt l (j+1)=(ok l[j+1]&&lt l[j] l[j+1]):=by
 unfold chk1;rw[List.getElem?_eq_getElem h];simp only[List.getElem?_eq_getElem (show j<l.length by omega)]
theorem s_TabOk0 {t:Tab}(h:smT 1048576 t):loopX (Zdj t) 0=some (if chainB rowOk rowLt t.1=true then .inl () else .inr false):=by
 refine chain_loop (fun i hi=>?_) ?_
 ·have hl:=h.1
  have e:Zm ((t.1[i]).1,(((t.1[i]).2.1.1,(t.1[i]).2.1.2),(((t.1[i]).2.2.1.1,(t.1[i]).2.2.1.2),((t.1[i]).2.2.2.1,(t.1[i]).2.2.2.2))))=some (rowOk t.1[i]):=s_RowOk (r:=t.1[i]) (by have:=(h.2.1 _ (List.getElem_mem hi)).1;omega)
  unfold Zdj
  rw[iLt_y (by simp only[lLen_def];omega),cnd_t,idx_at hi,bnd_s,e,bnd_s]
  cases i with
  | zero =>
   rw[chk1_0 hi]
   cases hr:rowOk t.1[0] with
   | false=>rfl
   | true=>rfl
  | succ j =>
   rw[chk1_s hi]
   cases hr:rowOk t.1[j+1] with
   | false=>rfl
   | true =>
    rw[bNot_t,cnd_f,iGt_y (by omega),cnd_t,show iSub .i64 ((j+1:Nat):Int) 1=(j:Int) from by rw[iSub_ok (by omega) (by omega)];omega,idx_at (show j<t.1.length by omega),bnd_s,bnd_s]
    unfold rowLt
    cases sLt t.1[j].1 t.1[j+1].1 with
    | false=>rfl
    | true=>rw[bNot_t,cnd_f,iAdd_ok (by omega) (by omega)];rfl
 ·have hl:=h.1
  unfold Zdj
  rw[iLt_n (by simp only[lLen_def];omega),cnd_f]
theorem i_TabOk0 {t:Tab}(h:smT 1048576 t):loopX (Zdy t) 0=some (if chainB rowOk rowLt t.1=true then .inl () else .inr false):=by
 refine chain_loop (fun i hi=>?_) ?_
 ·have hl:=h.1
  have e:Zbj ((t.1[i]).1,(((t.1[i]).2.1.1,(t.1[i]).2.1.2),(((t.1[i]).2.2.1.1,(t.1[i]).2.2.1.2),((t.1[i]).2.2.2.1,(t.1[i]).2.2.2.2))))=some (rowOk t.1[i]):=i_RowOk (r:=t.1[i]) (by have:=(h.2.1 _ (List.getElem_mem hi)).1;omega)
  unfold Zdy
  rw[iLt_y (by simp only[lLen_def];omega),cnd_t,idx_at hi,bnd_s,e,bnd_s]
  cases i with
  | zero =>
   rw[chk1_0 hi]
   cases hr:rowOk t.1[0] with
   | false=>rfl
   | true=>rfl
  | succ j =>
   rw[chk1_s hi]
   cases hr:rowOk t.1[j+1] with
   | false=>rfl
   | true =>
    rw[bNot_t,cnd_f,iGt_y (by omega),cnd_t,show iSub .i64 ((j+1:Nat):Int) 1=(j:Int) from by rw[iSub_ok (by omega) (by omega)];omega,idx_at (show j<t.1.length by omega),bnd_s]
    unfold rowLt
    cases sLt t.1[j].1 t.1[j+1].1 with
    | false=>rfl
    | true=>rw[bNot_t,cnd_f,iAdd_ok (by omega) (by omega)];rfl
 ·have hl:=h.1
  unfold Zdy
  rw[iLt_n (by simp only[lLen_def];omega),cnd_f]
theorem s_l12Mark (m:Mark):Zce m=some (markOk m):=by
 unfold Zce markOk Zcd
 simp only[s_In,bnd_s,cnd_and]
theorem s_TabOk1 {t:Tab}(h:smT 1048576 t):loopX (Zdk t) 0=some (if chainB markOk markLt t.2.2=true then .inl () else .inr false):=by
 refine chain_loop (fun i hi=>?_) ?_
 ·have hl:=h.2.2
  have e:Zce (t.2.2[i].1,(t.2.2[i].2.1,t.2.2[i].2.2))=some (markOk t.2.2[i]):=s_l12Mark _
  unfold Zdk
  rw[iLt_y (by simp only[lLen_def];omega),cnd_t,idx_at hi,bnd_s,e,bnd_s]
  cases i with
  | zero =>
   rw[chk1_0 hi]
   cases hr:markOk t.2.2[0] with
   | false=>rfl
   | true=>rfl
  | succ j =>
   rw[chk1_s hi]
   cases hr:markOk t.2.2[j+1] with
   | false=>rfl
   | true =>
    rw[bNot_t,cnd_f,iGt_y (by omega),cnd_t,show iSub .i64 ((j+1:Nat):Int) 1=(j:Int) from by rw[iSub_ok (by omega) (by omega)];omega,idx_at (show j<t.2.2.length by omega),bnd_s,bnd_s]
    unfold markLt
    by_cases hlt:t.2.2[j].1<t.2.2[j+1].1
    ·rw[iGe_n (by omega),cnd_f,iAdd_ok (by omega) (by omega),decide_eq_true hlt];rfl
    ·rw[iGe_y (by omega),cnd_t,decide_eq_false hlt];rfl
 ·have hl:=h.2.2
  unfold Zdk
  rw[iLt_n (by simp only[lLen_def];omega),cnd_f]
theorem i_TabOk1 {t:Tab}(h:smT 1048576 t):loopX (Zdz t) 0=some (if chainB markOk markLt t.2.2=true then .inl () else .inr false):=by
 refine chain_loop (fun i hi=>?_) ?_
 ·have hl:=h.2.2
  unfold Zdz Zco
  rw[iLt_y (by simp only[lLen_def];omega),cnd_t,idx_at hi,bnd_s]
  simp only[i_In,bnd_s]
  have key:∀a b c:Bool,∀rest:Option (Int ⊕ (Unit ⊕ Bool)),cnd (bNot a) (some (.inr (.inr false))) (cnd (bNot b) (some (.inr (.inr false))) (cnd (bNot c) (some (.inr (.inr false))) rest))=if (a&&(b&&c))=true then rest else some (.inr (.inr false)):=by
   intro a b c rest;cases a<;>cases b<;>cases c<;>rfl
  rw[key]
  have mk:∀m:Mark,(decide (1<=m.1/\m.1<=9)&&(decide (0<=m.2.1/\m.2.1<=65535)&&decide (0<=m.2.2/\m.2.2<=6)))=markOk m:=fun m=>rfl
  cases i with
  | zero =>
   rw[chk1_0 hi,mk]
   cases hr:markOk t.2.2[0] with
   | false=>rfl
   | true=>rfl
  | succ j =>
   rw[chk1_s hi,mk]
   cases hr:markOk t.2.2[j+1] with
   | false=>rfl
   | true =>
    rw[if_pos rfl,iGt_y (by omega),cnd_t,show iSub .i64 ((j+1:Nat):Int) 1=(j:Int) from by rw[iSub_ok (by omega) (by omega)];omega,idx_at (show j<t.2.2.length by omega),bnd_s]
    unfold markLt
    by_cases hlt:t.2.2[j].1<t.2.2[j+1].1
    ·rw[iGe_n (by omega),cnd_f,iAdd_ok (by omega) (by omega),decide_eq_true hlt];rfl
    ·rw[iGe_y (by omega),cnd_t,decide_eq_false hlt];rfl
 ·have hl:=h.2.2
  unfold Zdz
  rw[iLt_n (by simp only[lLen_def];omega),cnd_f]
theorem tab_end (a b:Bool) (n:Nat) (c:Int):(joinX (some (if a=true then .inl () else .inr false):Option (Unit ⊕ Bool)) fun _=>joinX (some (if b=true then .inl () else .inr false):Option (Unit ⊕ Bool)) fun _=>cnd (iLe (n:Int) 8) (some (decide (0<=c/\c<=7))) (some false))=some (a&&(b&&(decide (n<=8)&&decide (0<=c/\c<=7)))):=by
 rw[cnd_and,show iLe (n:Int) 8=decide (n<=8) by simp only[iLe];rw[Bool.eq_iff_iff];simp;omega]
 cases a<;>cases b<;>rfl
theorem s_TabOk {t:Tab}(h:smT 1048576 t):Zbg t=some (tabOk t):=by
 unfold Zbg tabOk
 rw[s_TabOk0 h,s_TabOk1 h]
 simp only[s_In,bnd_s,lLen_def,tab_end]
theorem i_TabOk {t:Tab}(h:smT 1048576 t):Zbk t=some (tabOk t):=by
 unfold Zbk tabOk
 rw[i_TabOk0 h,i_TabOk1 h]
 simp only[i_In,bnd_s,lLen_def,tab_end]
end
end Go.Vs
