import Derived.Test.YtmpopjdcbabchaaGreatDoorVsW5
import Derived.Test.YtmpopjdcbabchaaGreatDoorVsQm2
set_option linter.all false
namespace Go.Vs
noncomputable section
theorem s_l9None (c:Cell):Zu c=some (noCell c):=by
 obtain⟨t,b⟩:=c
 unfold Zu noCell
 simp only[iEq,lLen_def]
 by_cases h:t=0
 ·subst h
  rw[show ((0:Int)==0)=true from rfl,cnd_t,decide_eq_true rfl,Bool.true_and]
  cases b with
  | nil=>rfl
  | cons x l =>
   have:(((x::l).length:Int)==0)=false:=by simp;omega
   rw[this];rfl
 ·have:(t==0)=false:=by simpa using h
  rw[this,cnd_f,decide_eq_false h];rfl
theorem i_sameZero (c:Cell):Zp ((c.1,c.2),(0,[]))=some (noCell c):=by
 obtain⟨t,b⟩:=c
 unfold Zp noCell
 simp only[iEq,sEq]
 by_cases h:t=0
 ·subst h
  rw[show ((0:Int)==0)=true from rfl,cnd_t,decide_eq_true rfl,Bool.true_and]
  cases b<;>rfl
 ·have:(t==0)=false:=by simpa using h
  rw[this,cnd_f,decide_eq_false h];rfl
theorem optR_2 (o:Option (List UInt8)):(optR o).2=o.isSome:=by cases o<;>rfl
theorem cellOk_old {o:Cell}(h:1<=o.1/\o.1<=5):cellOk o=decide (o.2.length<=20):=by
 unfold cellOk
 rw[decide_eq_true (show 0<=o.1/\o.1<=5 by omega),Bool.true_and]
theorem s_RowOk {r:Row}(hl:r.1.length<9223372036854775807):Zbb r=some (rowOk r):=by
 obtain⟨key,⟨ot,ob⟩,⟨nt,nb⟩,has,aside⟩:=r
 have n1:Zbl key=some (nameOk key):=s_NameOk hl
 have n2:=s_CellText (ot,ob)
 have n3:=s_CellText (nt,nb)
 have n4:=s_l9None (ot,ob)
 have n5:=s_l9None (nt,nb)
 have n6:=s_SameText (ot,ob) (nt,nb)
 have n7:=s_CellOk (ot,ob)
 have nI:Zg (has,(1,3))=some (decide (1<=has/\has<=3)):=s_In _ _ _
 have nT:Zg (ot,(1,5))=some (decide (1<=ot/\ot<=5)):=s_In _ _ _
 unfold Zbb rowOk
 dsimp only
 rw[n1,bnd_s]
 cases hn:nameOk key with
 | false=>rfl
 | true =>
 rw[bNot_t,cnd_f,nI,bnd_s]
 by_cases hh:1<=has/\has<=3
 case neg=>rw[decide_eq_false hh];rfl
 rw[decide_eq_true hh,bNot_t,cnd_f]
 rcases (show has=1\/has=2\/has=3 by omega) with rfl|rfl|rfl
 ·have o1:Zi (key,(ot,ob),(nt,nb),1,aside)=some true:=congrArg some (show iEq (iAnd .i64 1 1) 1=true by decide +kernel)
  have o2:Zh (key,(ot,ob),(nt,nb),1,aside)=some false:=congrArg some (show iEq (iAnd .i64 1 2) 2=false by decide +kernel)
  simp only[o1,o2,n2,n3,n4,n5,n6,n7,nT,bnd_s,bNot_t,bNot_f,cnd_t,cnd_f,optR_2]
  rw[show iNe 1 3=true from rfl,cnd_t]
  unfold rOldOk rNewOk
  rw[if_neg (by decide),if_pos rfl]
  by_cases hT:1<=ot/\ot<=5
  ·rw[cellOk_old (o:=(ot,ob)) hT]
   generalize noCell (nt,nb)=b1
   generalize decide (ob.length<=20)=b2
   generalize (cellText (ot,ob)).isSome=b3
   simp only[decide_eq_true hT]
   cases b1<;>cases b2<;>cases b3<;>cases aside<;>rfl
  ·simp only[decide_eq_false hT]
   generalize noCell (nt,nb)=b1
   cases b1<;>rfl
 ·have o1:Zi (key,(ot,ob),(nt,nb),2,aside)=some false:=congrArg some (show iEq (iAnd .i64 2 1) 1=false by decide +kernel)
  have o2:Zh (key,(ot,ob),(nt,nb),2,aside)=some true:=congrArg some (show iEq (iAnd .i64 2 2) 2=true by decide +kernel)
  simp only[o1,o2,n2,n3,n4,n5,n6,n7,nT,bnd_s,bNot_t,bNot_f,cnd_t,cnd_f,optR_2]
  rw[show iNe 2 3=true from rfl,cnd_t]
  unfold rOldOk rNewOk
  rw[if_pos rfl,if_neg (by decide)]
  have e0:iNe nt 0=!decide (nt=0):=by
   by_cases h:nt=0
   ·subst h;rfl
   ·rw[iNe_y h,decide_eq_false h];rfl
  rw[e0]
  generalize noCell (ot,ob)=b1
  generalize decide (nt=0)=b2
  generalize (cellText (nt,nb)).isSome=b3
  cases b1<;>cases b2<;>cases b3<;>rfl
 ·have o1:Zi (key,(ot,ob),(nt,nb),3,aside)=some true:=congrArg some (show iEq (iAnd .i64 3 1) 1=true by decide +kernel)
  have o2:Zh (key,(ot,ob),(nt,nb),3,aside)=some true:=congrArg some (show iEq (iAnd .i64 3 2) 2=true by decide +kernel)
  simp only[o1,o2,n2,n3,n4,n5,n6,n7,nT,bnd_s,bNot_t,bNot_f,cnd_t,cnd_f,optR_2]
  rw[show iNe 3 3=false from rfl]
  simp only[cnd_f]
  unfold rOldOk rNewOk
  rw[if_neg (by decide),if_neg (by decide)]
  have e0:iNe nt 0=!decide (nt=0):=by
   by_cases h:nt=0
   ·subst h;rfl
   ·rw[iNe_y h,decide_eq_false h];rfl
  rw[e0]
  by_cases hT:1<=ot/\ot<=5
  ·rw[cellOk_old (o:=(ot,ob)) hT]
   simp only[decide_eq_true hT]
   generalize decide (nt=0)=b1
   generalize decide (ob.length<=20)=b2
   generalize (cellText (ot,ob)).isSome=b3
   generalize (cellText (nt,nb)).isSome=b4
   generalize sameText (ot,ob) (nt,nb)=b5
   cases b1<;>cases b2<;>cases b3<;>cases b4<;>cases b5<;>cases aside<;>rfl
  ·simp only[decide_eq_false hT]
   generalize decide (nt=0)=b1
   generalize (cellText (nt,nb)).isSome=b4
   cases b1<;>cases b4<;>rfl
theorem i_RowOk {r:Row}(hl:r.1.length<9223372036854775807):Zbf r=some (rowOk r):=by
 obtain⟨key,⟨ot,ob⟩,⟨nt,nb⟩,has,aside⟩:=r
 have n1:Zcf key=some (nameOk key):=i_NameOk hl
 have n2:=i_CellText (ot,ob)
 have n3:=i_CellText (nt,nb)
 have n4:Zp ((ot,ob),(0,[]))=some (noCell (ot,ob)):=i_sameZero (ot,ob)
 have n5:Zp ((nt,nb),(0,[]))=some (noCell (nt,nb)):=i_sameZero (nt,nb)
 have n6:=i_SameText (ot,ob) (nt,nb)
 have n7:=i_CellOk (ot,ob)
 have nI:Zj (has,(1,3))=some (decide (1<=has/\has<=3)):=i_In _ _ _
 unfold Zbf rowOk
 dsimp only
 rw[n1,bnd_s]
 cases hn:nameOk key with
 | false=>rfl
 | true =>
 rw[bNot_t,cnd_f,nI,bnd_s]
 by_cases hh:1<=has/\has<=3
 case neg=>rw[decide_eq_false hh];rfl
 rw[decide_eq_true hh,bNot_t,cnd_f]
 simp only[n2,n3,n4,n5,n6,n7,bnd_s,optR_2]
 have e0:iEq nt 0=decide (nt=0):=by
  by_cases h:nt=0
  ·subst h;rfl
  ·rw[iEq_n h,decide_eq_false h]
 have eC:cnd (cellOk (ot,ob)) (cnd (iNe ot 0) (cnd (cellText (ot,ob)).isSome (some (Sum.inl (β:=Bool) true)) (cnd aside (some (.inl (iEq has 1))) (some (.inl false)))) (some (.inl false))) (some (.inl false))=some (.inl (decide (1<=ot/\ot<=5)&&decide (ob.length<=20)&&((cellText (ot,ob)).isSome||(aside&&iEq has 1)))):=by
  by_cases hT:1<=ot/\ot<=5
  ·rw[cellOk_old (o:=(ot,ob)) hT,decide_eq_true hT,iNe_y (by omega)]
   generalize decide (ob.length<=20)=b2
   generalize (cellText (ot,ob)).isSome=b3
   generalize iEq has 1=b4
   cases b2<;>cases b3<;>cases b4<;>cases aside<;>rfl
  ·rw[decide_eq_false hT]
   by_cases h0:ot=0
   ·subst h0
    rw[show iNe 0 0=false from rfl]
    cases cellOk (0,ob)<;>rfl
   ·have:cellOk (ot,ob)=false:=by
     unfold cellOk
     rw[decide_eq_false (by simp only;omega)];rfl
    rw[this];rfl
 rw[eC,e0]
 rcases (show has=1\/has=2\/has=3 by omega) with rfl|rfl|rfl
 ·unfold rOldOk rNewOk
  rw[if_neg (by decide),if_pos rfl,show iNe 1 2=true from rfl,show iNe 1 1=false from rfl,show iNe 1 3=true from rfl,show iEq 1 1=true from rfl]
  generalize (decide (1<=ot/\ot<=5))=b0
  generalize noCell (nt,nb)=b1
  generalize decide (ob.length<=20)=b2
  generalize (cellText (ot,ob)).isSome=b3
  cases b0<;>cases b1<;>cases b2<;>cases b3<;>cases aside<;>rfl
 ·unfold rOldOk rNewOk
  rw[if_pos rfl,if_neg (by decide),show iNe 2 2=false from rfl,show iNe 2 1=true from rfl,show iNe 2 3=true from rfl]
  generalize noCell (ot,ob)=b1
  generalize decide (nt=0)=b2
  generalize (cellText (nt,nb)).isSome=b3
  cases b1<;>cases b2<;>cases b3<;>rfl
 ·unfold rOldOk rNewOk
  rw[if_neg (by decide),if_neg (by decide),show iNe 3 2=true from rfl,show iNe 3 1=true from rfl,show iNe 3 3=false from rfl,show iEq 3 1=false from rfl]
  generalize (decide (1<=ot/\ot<=5))=b0
  generalize decide (nt=0)=b1
  generalize decide (ob.length<=20)=b2
  generalize (cellText (ot,ob)).isSome=b3
  generalize (cellText (nt,nb)).isSome=b4
  generalize sameText (ot,ob) (nt,nb)=b5
  cases b0<;>cases b1<;>cases b2<;>cases b3<;>cases b4<;>cases b5<;>cases aside<;>rfl
abbrev Rec:=Int×Row×List UInt8×Int×Int×Int×Int
def noRow (r:Row):Bool:=r.1.isEmpty&&noCell r.2.1&&noCell r.2.2.1&&decide (r.2.2.2.1=0)&&!r.2.2.2.2
def bodyOk (k:Int) (R:Row) (key:List UInt8) (n:Int):Bool :=
 if k=1 then rowOk R&&key.isEmpty&&decide (n=0)
 else if k=2 then noRow R&&nameOk key&&decide (n=0)
 else if k=3 then noRow R&&key.isEmpty&&decide (0<=n/\n<=7)
 else if k=4 then noRow R&&key.isEmpty&&decide (n=0)
 else false
def whoOk (k who seq code:Int):Bool:=if who=0 then decide (seq=0/\code=0/\k≠4) else decide (1<=who/\who<=9/\0<=seq/\seq<=65535/\0<=code/\code<=6)
def recOk (r:Rec):Bool:=bodyOk r.1 r.2.1 r.2.2.1 r.2.2.2.1&&whoOk r.1 r.2.2.2.2.1 r.2.2.2.2.2.1 r.2.2.2.2.2.2
theorem whoOk_has {k who seq code:Int}(h:whoOk k who seq code=true):0<=who/\who<=9/\0<=seq/\seq<=65535/\0<=code/\code<=6:=by
 unfold whoOk at h
 split at h
 ·simp only[decide_eq_true_eq]at h;omega
 ·simp only[decide_eq_true_eq]at h;omega
theorem cnd_and (a b:Bool):cnd a (some b) (some false)=some (a&&b):=by cases a<;>rfl
theorem cnd_andL {ρ:Type}(a b:Bool):cnd a (some (.inl b)) (some (.inl false))=(some (.inl (a&&b)):Option (Bool ⊕ ρ)):=by cases a<;>rfl
theorem sEq_nil (l:List UInt8):sEq l []=l.isEmpty:=by cases l<;>rfl
theorem iEq_d (a b:Int):iEq a b=decide (a=b):=by simp only[iEq];rfl
theorem s_noRow (r:Row):Zcz r=some (noRow r):=by
 obtain⟨key,⟨ot,ob⟩,⟨nt,nb⟩,has,aside⟩:=r
 unfold Zcz noRow
 have e1:=s_l9None (ot,ob)
 have e2:=s_l9None (nt,nb)
 simp only[e1,e2,bnd_s,cnd_and,sEq_nil,iEq_d]
 congr 1
 cases aside<;>simp [bNot,Bool.and_assoc]
theorem i_noRow (r:Row):Zdb ((r.1,((r.2.1.1,r.2.1.2),((r.2.2.1.1,r.2.2.1.2),(r.2.2.2.1,r.2.2.2.2)))),([],((0,[]),((0,[]),(0,false)))))=some (noRow r):=by
 obtain⟨key,⟨ot,ob⟩,⟨nt,nb⟩,has,aside⟩:=r
 unfold Zdb noRow
 have e1:Zp ((ot,ob),(0,[]))=_:=i_sameZero (ot,ob)
 have e2:Zp ((nt,nb),(0,[]))=_:=i_sameZero (nt,nb)
 simp only[e1,e2,bnd_s,cnd_and,sEq_nil,iEq_d]
 congr 1
 cases aside<;>simp [bEq,Bool.and_assoc]
theorem who_s (k w sq cd:Int):cnd (decide (w=0)) (some (decide (sq=0)&&(decide (cd=0)&&iNe k 4))) (some (decide (1<=w/\w<=9)&&(decide (0<=sq/\sq<=65535)&&decide (0<=cd/\cd<=6))))=some (whoOk k w sq cd):=by
 unfold whoOk
 by_cases h:w=0
 ·rw[decide_eq_true h,cnd_t,if_pos h]
  simp only[iNe]
  congr 1
  rw[Bool.eq_iff_iff]
  simp
 ·rw[decide_eq_false h,cnd_f,if_neg h]
  congr 1
  rw[Bool.eq_iff_iff]
  simp only[Bool.and_eq_true,decide_eq_true_eq]
  omega
theorem body_s (k n:Int) (R:Row) (key:List UInt8) (f:Bool):(joinX (cnd (decide (k=1)) (some (.inl (rowOk R,(key.isEmpty,decide (n=0))))) (cnd (decide (k=2)) (some (.inl (noRow R,(nameOk key,decide (n=0))))) (cnd (decide (k=3)) (some (.inl (noRow R,(key.isEmpty,decide (0<=n/\n<=7))))) (some (.inl (noRow R,(key.isEmpty,decide (n=0))))))):Option ((Bool×Bool×Bool) ⊕ Bool)) fun z=>some (decide (1<=k/\k<=4)&&(z.1&&(z.2.1&&(z.2.2&&f)))))=some (bodyOk k R key n&&f):=by
 unfold bodyOk
 rcases (show k=1\/k=2\/k=3\/k=4\/¬(1<=k/\k<=4) by omega) with rfl|rfl|rfl|rfl|h
 ·generalize rowOk R=a;generalize key.isEmpty=b;generalize decide (n=0)=c
  cases a<;>cases b<;>cases c<;>cases f<;>rfl
 ·generalize noRow R=a;generalize nameOk key=b;generalize decide (n=0)=c
  cases a<;>cases b<;>cases c<;>cases f<;>rfl
 ·generalize noRow R=a;generalize key.isEmpty=b;generalize decide (0<=n/\n<=7)=c
  cases a<;>cases b<;>cases c<;>cases f<;>rfl
 ·generalize noRow R=a;generalize key.isEmpty=b;generalize decide (n=0)=c
  cases a<;>cases b<;>cases c<;>cases f<;>rfl
 ·rw[decide_eq_false h,decide_eq_false (show ¬k=1 by omega),decide_eq_false (show ¬k=2 by omega),decide_eq_false (show ¬k=3 by omega),if_neg (by omega),if_neg (by omega),if_neg (by omega),if_neg (by omega)]
  rfl
theorem s_RecOk {r:Rec}(h1:r.2.1.1.length<9223372036854775807) (h2:r.2.2.1.length<9223372036854775807):Zcc r=some (recOk r):=by
 obtain⟨k,⟨key,⟨ot,ob⟩,⟨nt,nb⟩,has,aside⟩,name,n,w,sq,cd⟩:=r
 simp only at h1 h2
 have e1:=s_noRow (key,((ot,ob),((nt,nb),(has,aside))))
 have e2:Zbb (key,((ot,ob),((nt,nb),(has,aside))))=_:=s_RowOk (by simp only;omega)
 have e3:=s_NameOk h2
 have e4:∀x l h:Int,Zg (x,(l,h))=some (decide (l<=x/\x<=h)):=s_In
 unfold Zcc recOk Zea Zca
 simp only[e1,e2,e3,e4,bnd_s,cnd_and,sEq_nil,iEq_d,who_s,body_s]
theorem body_i (k n w:Int) (R:Row) (key:List UInt8):cnd (decide (k=1)) (some (.inl (rowOk R&&(key.isEmpty&&decide (n=0))))) (cnd (decide (k=2)) (some (.inl (noRow R&&(nameOk key&&decide (n=0))))) (cnd (decide (k=3)) (some (.inl (noRow R&&(key.isEmpty&&decide (0<=n/\n<=7))))) (some (.inl (decide (k=4)&&(noRow R&&(key.isEmpty&&(decide (n=0)&&iNe w 0))))))))=(some (.inl (bodyOk k R key n&&!(decide (k=4/\w=0)))):Option (Bool ⊕ Bool)):=by
 unfold bodyOk
 rcases (show k=1\/k=2\/k=3\/k=4\/¬(1<=k/\k<=4) by omega) with rfl|rfl|rfl|rfl|h
 ·generalize rowOk R=a;generalize key.isEmpty=b;generalize decide (n=0)=c
  rw[decide_eq_false (show ¬((1:Int)=4/\w=0) by omega)]
  cases a<;>cases b<;>cases c<;>rfl
 ·generalize noRow R=a;generalize nameOk key=b;generalize decide (n=0)=c
  rw[decide_eq_false (show ¬((2:Int)=4/\w=0) by omega)]
  cases a<;>cases b<;>cases c<;>rfl
 ·generalize noRow R=a;generalize key.isEmpty=b;generalize decide (0<=n/\n<=7)=c
  rw[decide_eq_false (show ¬((3:Int)=4/\w=0) by omega)]
  cases a<;>cases b<;>cases c<;>rfl
 ·generalize noRow R=a;generalize key.isEmpty=b;generalize decide (n=0)=c
  rw[show decide ((4:Int)=4/\w=0)=!iNe w 0 by rw[Bool.eq_iff_iff];simp [iNe]]
  generalize iNe w 0=d
  cases a<;>cases b<;>cases c<;>cases d<;>rfl
 ·rw[decide_eq_false (show ¬k=1 by omega),decide_eq_false (show ¬k=2 by omega),decide_eq_false (show ¬k=3 by omega),decide_eq_false (show ¬k=4 by omega),if_neg (by omega),if_neg (by omega),if_neg (by omega),if_neg (by omega)]
  rfl
theorem who_i (k w sq cd:Int) (b:Bool):cnd (decide (w=0)) (some ((b&&!(decide (k=4/\w=0)))&&(decide (sq=0)&&decide (cd=0)))) (some ((b&&!(decide (k=4/\w=0)))&&(decide (1<=w/\w<=9)&&(decide (0<=sq/\sq<=65535)&&decide (0<=cd/\cd<=6)))))=some (b&&whoOk k w sq cd):=by
 unfold whoOk
 by_cases h:w=0
 ·rw[decide_eq_true h,cnd_t,if_pos h]
  congr 1
  rw[Bool.and_assoc];congr 1
  rw[Bool.eq_iff_iff]
  simp only[Bool.and_eq_true,decide_eq_true_eq,Bool.not_eq_true',decide_eq_false_iff_not]
  omega
 ·rw[decide_eq_false h,cnd_f,if_neg h]
  congr 1
  rw[Bool.and_assoc];congr 1
  rw[Bool.eq_iff_iff]
  simp only[Bool.and_eq_true,decide_eq_true_eq,Bool.not_eq_true',decide_eq_false_iff_not]
  omega
theorem i_RecOk {r:Rec}(h1:r.2.1.1.length<9223372036854775807) (h2:r.2.2.1.length<9223372036854775807):Zci r=some (recOk r):=by
 obtain⟨k,⟨key,⟨ot,ob⟩,⟨nt,nb⟩,has,aside⟩,name,n,w,sq,cd⟩:=r
 simp only at h1 h2
 have e1:=i_noRow (key,((ot,ob),((nt,nb),(has,aside))))
 have e2:Zbf (key,((ot,ob),((nt,nb),(has,aside))))=_:=i_RowOk (by simp only;omega)
 have e3:=i_NameOk h2
 have e4:∀x l h:Int,Zj (x,(l,h))=some (decide (l<=x/\x<=h)):=i_In
 simp only at e1
 unfold Zci recOk Zch
 simp only[e1,e2,e3,e4,bnd_s,cnd_and,cnd_andL,sEq_nil,iEq_d,body_i,joinX_l,who_i]
def smC (B:Nat) (r:Rec):Prop:=smR B r.2.1/\r.2.2.1.length<=B
theorem smC.mono {A B:Nat}{r:Rec}(h:smC A r) (hab:A<=B):smC B r:=⟨h.1.mono hab,Nat.le_trans h.2 hab⟩
theorem szRec_ok {r:Rec}{k:Int}(h0:0<=k) (hk:k<=1048576) (hl:smC 9223372036854775807 r):SzR (Zbw (r,k)) k (smC 1048576 r):=by
 unfold Zbw
 refine SzR.seq h0 (szRow_ok (r:=r.2.1) h0 hk hl.1) fun z hz hz2=>?_
 have e:iSub .i64 z (lLen r.2.2.1)=z-r.2.2.1.length:=iSub_ok (by have:=hl.2;simp only[lLen_def];omega) (by simp only[lLen_def];omega)
 refine (SzR.sub (P:=True) hz (by omega) hl.2 fun h=>by simp only[e];exact SzR.done).mono (Int.le_refl _) fun h=>by have:=h.1;omega
theorem toRec_ok {r:Rec}(h:smC 140737488355328 r):Zb r=some r:=by
 unfold Zb
 rw[show Zy (r.2.1.1,((r.2.1.2.1.1,r.2.1.2.1.2),((r.2.1.2.2.1.1,r.2.1.2.2.1.2),(r.2.1.2.2.2.1,r.2.1.2.2.2.2))))=some r.2.1 from toRow_ok h.1];rfl
theorem eqRec_ok {r:Rec}(h:smC 9223372036854775806 r):Zq (r,r)=some true:=by
 have e:Zbh ((r.2.1.1,((r.2.1.2.1.1,r.2.1.2.1.2),((r.2.1.2.2.1.1,r.2.1.2.2.1.2),(r.2.1.2.2.2.1,r.2.1.2.2.2.2)))),(r.2.1.1,((r.2.1.2.1.1,r.2.1.2.1.2),((r.2.1.2.2.1.1,r.2.1.2.2.1.2),(r.2.1.2.2.2.1,r.2.1.2.2.2.2)))))=some true:=eqRow_ok h.1
 unfold Zq
 simp only[iNe_r,cnd_f,sEq_r,bNot_t,e,bnd_s]
abbrev Mark:=Int×Int×Int
abbrev Tab:=List Row×Int×List Mark
def smT (B:Nat) (t:Tab):Prop:=t.1.length<=B/\(∀r∈t.1,smR B r)/\t.2.2.length<=B
theorem smT.mono {A B:Nat}{t:Tab}(h:smT A t) (hab:A<=B):smT B t:=⟨Nat.le_trans h.1 hab,fun r hr=>(h.2.1 r hr).mono hab,Nat.le_trans h.2.2 hab⟩
theorem szRowS_ok {l:List Row}{k:Int}(h0:0<=k) (hk:k<=1048576) (hl:l.length<=9223372036854775807) (hr:∀r∈l,smR 9223372036854775807 r):SzR (Zco (l,k)) k (l.length<=1048576/\∀r∈l,smR 1048576 r):=by
 have e:Zco (l,k)=szLst Zbk (l,k):=rfl
 rw[e]
 refine (szLst_ok' (B:=1048576) h0 hk (by omega) hl (P:=smR 1048576) fun e he k h0 hk=>szRow_ok h0 hk (hr e he)).mono (Int.le_refl _) fun h=>⟨by omega,h.2⟩
theorem szTab_ok {t:Tab}{k:Int}(h0:0<=k) (hk:k<=1048576) (h:smT 9223372036854775807 t):SzR (Zbv (t,k)) k (smT 1048576 t):=by
 unfold Zbv
 refine (SzR.seq h0 (szRowS_ok h0 hk h.1 h.2.1) (Q:=t.2.2.length<=1048576) fun z hz hz2=>?_).mono (Int.le_refl _) fun h=>⟨h.1.1,h.1.2,h.2⟩
 have e:iSub .i64 z (lLen t.2.2)=z-t.2.2.length:=iSub_ok (by have:=h.2.2;simp only[lLen_def];omega) (by simp only[lLen_def];omega)
 have e2:Zdw (t.2.2,z)=cnd (iLt (iSub .i64 z (lLen t.2.2)) 0) (some (-1)) (some (iSub .i64 z (lLen t.2.2))):=rfl
 refine SzR.one hz ?_
 rw[e2]
 refine (SzR.sub (P:=True) hz (by omega) h.2.2 fun h=>by simp only[e];exact SzR.done).mono (Int.le_refl _) fun h=>by have:=h.1;omega
theorem toTab_ok {t:Tab}(h:smT 1048576 t):Za t=some t:=by
 have e1:Zcq t.1=some t.1:=by
  have:Zcq t.1=toLst Zy ([],((0,[]),((0,[]),(0,false)))) 96 t.1:=rfl
  rw[this]
  exact toLst_ok (by have:=h.1;omega) (by have:=h.1;omega) fun r hr=>toRow_ok ((h.2.1 r hr).mono (by decide))
 have e2:Zcr t.2.2=some t.2.2:=by
  have:Zcr t.2.2=toLst Zdx (0,(0,0)) 24 t.2.2:=rfl
  rw[this]
  exact toLst_ok (by have:=h.2.2;omega) (by have:=h.2.2;omega) fun r hr=>rfl
 unfold Za
 rw[e1,bnd_s,e2];rfl
theorem eqTab_ok {t:Tab}(h:smT 1048576 t):Zc (t,t)=some true:=by
 have e1:Zdm (t.1,t.1)=some true:=by
  have:Zdm (t.1,t.1)=eqLst Zbh (t.1,t.1):=rfl
  rw[this]
  exact eqLst_ok (by have:=h.1;omega) fun r hr=>eqRow_ok ((h.2.1 r hr).mono (by decide))
 have e2:Zdo (t.2.2,t.2.2)=some true:=by
  have:Zdo (t.2.2,t.2.2)=eqLst Zdn (t.2.2,t.2.2):=rfl
  rw[this]
  exact eqLst_ok (by have:=h.2.2;omega) fun r hr=>by unfold Zdn;simp only[iNe_r,cnd_f]
 unfold Zc
 simp only[e1,e2,bnd_s,bNot_t,cnd_f,iNe_r]
def HRow (m:Int) (e:Row) (m':Int):Prop:=∀(x:List Row×Int) (i:Nat),x.1.length<=4194304->i<x.1.length->x.1[i]? = some e->Zem x (m,(i:Int))=some (.inl (m',(i:Int)+1))
theorem markRowS_ok {x:List Row}{m:Int}(h0:0<=m) (hm:m<=4503599627370496) (hl:x.length<=1048577) (hr:∀r∈x,smR 1048576 r):∃m' x',Zdq (x,m)=some (m',x')/\Zdt (x',m)=some m'/\x'.length=x.length/\m<=m'/\m'<=m+4503599627370496:=by
 obtain⟨l',m',h1,h2,h3,h4,h5⟩:=mark_loop (H:=HRow) (K:=4194304) (x:=x) (m0:=m) (step:=Zdp) (by omega) (by omega) (by
  intro l k i hi hll hx hk1 hk2
  obtain⟨a1,a2,a3⟩:=hr x[i] (List.getElem_mem hi)
  have hil:i<l.length:=by omega
  obtain⟨s1,hs1⟩:=markText_ok (m:=k) (by omega)
  obtain⟨m1,x1,b1,b2,b3,b4,b5⟩:=markByteS_ok (x:=x[i].2.1.2) (m:=k+1+1) (by omega) (by omega) a2
  obtain⟨m2,x2,c1,c2,c3,c4,c5⟩:=markByteS_ok (x:=x[i].2.2.1.2) (m:=m1+1) (by omega) (by omega) a3
  have ho:=Eq.refl (Zdp (l,(k,(i:Int))))
  conv at ho=>rhs;simp (disch:=first|omega|(simp only[lSet_len,lLen_def];omega)) only[Zdp,iLt_y,cnd_t,idx_n,idx_ofNat,hx,bnd_s,nOf_n,iAdd_ok,hs1,lSet_at,lSet_lSet,nEq_r,chk_t,b1,b3,c1,c3]
  refine⟨_,_,ho, ?_,by omega,by omega⟩
  intro y j hyl hj hy
  simp (disch:=first|omega|(simp only[lLen_def];omega)) only[Zem,iLt_y,cnd_t,idx_n,hy,bnd_s,iAdd_ok,iNe_r,cnd_f,hs1,sEq_r,bNot_t,b2,iLt_n,c2,bNe_r]) (by
  intro l k hll
  simp only[Zdp]
  rw[iLt_n (by simp only[lLen_def];omega),cnd_f])
 refine⟨m',l', ?_, ?_,h3,h4,by omega⟩
 ·unfold Zdq
  simp only[h1,joinX_l,h3,nEq_r,chk_t]
 ·unfold Zdt
  simp only
  rw[held_loop (H:=HRow) (m1:=m') (by omega) h2 (fun k k' i hi h=>h _ i (by simp only;omega) hi (List.getElem?_eq_getElem hi)) (by
   intro k
   simp only[Zem]
   rw[iLt_n (by simp only[lLen_def];omega),cnd_f])]
  rfl
abbrev Mk:=Int×Int×Int
def HMk (m:Int) (e:Mk) (m':Int):Prop:=∀(x:List Mk×Int) (i:Nat),x.1.length<=4194304->i<x.1.length->x.1[i]? = some e->Zen x (m,(i:Int))=some (.inl (m',(i:Int)+1))
theorem markMarkS_ok {x:List Mk}{m:Int}(h0:0<=m) (hm:m<=9007199254740992) (hl:x.length<=1048577):∃m' x',Zds (x,m)=some (m',x')/\Zdu (x',m)=some m'/\x'.length=x.length/\m<=m'/\m'<=m+4194304:=by
 obtain⟨l',m',h1,h2,h3,h4,h5⟩:=mark_loop (H:=HMk) (K:=3) (x:=x) (m0:=m) (step:=Zdr) (by omega) (by omega) (by
  intro l k i hi hll hx hk1 hk2
  have hil:i<l.length:=by omega
  have ho:=Eq.refl (Zdr (l,(k,(i:Int))))
  conv at ho=>rhs;simp (disch:=first|omega|(simp only[lSet_len,lLen_def];omega)) only[Zdr,iLt_y,cnd_t,idx_n,idx_ofNat,hx,bnd_s,nOf_n,iAdd_ok,lSet_at,lSet_lSet,nEq_r,chk_t]
  refine⟨_,_,ho, ?_,by omega,by omega⟩
  intro y j hyl hj hy
  simp (disch:=first|omega|(simp only[lLen_def];omega)) only[Zen,iLt_y,cnd_t,idx_n,hy,bnd_s,iAdd_ok,iNe_r,cnd_f]) (by
  intro l k hll
  simp only[Zdr]
  rw[iLt_n (by simp only[lLen_def];omega),cnd_f])
 refine⟨m',l', ?_, ?_,h3,h4,by omega⟩
 ·unfold Zds
  simp only[h1,joinX_l,h3,nEq_r,chk_t]
 ·unfold Zdu
  simp only
  rw[held_loop (H:=HMk) (m1:=m') (by omega) h2 (fun k k' i hi h=>h _ i (by simp only;omega) hi (List.getElem?_eq_getElem hi)) (by
   intro k
   simp only[Zen]
   rw[iLt_n (by simp only[lLen_def];omega),cnd_f])]
  rfl
theorem markTab_at {t:Tab}{m:Int}(h:smT 1048576 t) (h0:0<=m) (hm:m<=1048576):∃m' x1 x2,Zk (t,m)=some (m',(x1,x2))/\Zf ((x1,(t.2.1,x2)),m)=some m'/\x1.length=t.1.length/\x2.length=t.2.2.length/\m<=m'/\m'<=9007199254740992:=by
 obtain⟨m1,x1,a1,a2,a3,a4,a5⟩:=markRowS_ok (x:=t.1) (m:=m) (by omega) (by omega) (by have:=h.1;omega) h.2.1
 obtain⟨m2,x2,b1,b2,b3,b4,b5⟩:=markMarkS_ok (x:=t.2.2) (m:=m1) (by omega) (by omega) (by have:=h.2.2;omega)
 refine⟨m2,x1,x2, ?_, ?_,a3,b3,by omega,by omega⟩
 ·unfold Zk
  simp only[a1,bnd_s,a3,nEq_r,chk_t,b1,b3]
 ·unfold Zf
  simp only[a2,bnd_s,b2]
  rw[iLt_n (by omega),cnd_f,iLt_n (by omega),cnd_f]
theorem markCell_any {c:Cell}{m:Int}(h0:0<=m) (hm:m<=1152921504606846976) (hl:c.2.length<=1048576):∃m' x',Zbj (c,m)=some (m',x')/\x'.length=c.2.length/\m<=m'/\m'<=m+1048576:=by
 obtain⟨m1,x1,a1,a2,a3,a4,a5⟩:=markByteS_ok (x:=c.2) h0 hm hl
 refine⟨m1,x1, ?_,a3,a4,a5⟩
 unfold Zbj
 simp only[a1,bnd_s,a3,nEq_r,chk_t]
theorem markRec_any {r:Rec}{m:Int}(h:smC 1048576 r) (h0:0<=m) (hm:m<=576460752303423488):∃m' x y,Zr (r,m)=some (m',(x,y))/\x.length=r.2.1.2.1.2.length/\y.length=r.2.1.2.2.1.2.length/\m<=m':=by
 obtain⟨m1,x1,a1,a3,a4,a5⟩:=markCell_any (c:=r.2.1.2.1) (m:=m) (by omega) (by omega) h.1.2.1
 obtain⟨m2,x2,b1,b3,b4,b5⟩:=markCell_any (c:=r.2.1.2.2.1) (m:=m1) (by omega) (by omega) h.1.2.2
 refine⟨m2,x1,x2, ?_,a3,b3,by omega⟩
 have e:Zcm (r.2.1,m)=some (m2,(x1,x2)):=by
  unfold Zcm
  rw[show Zbj ((r.2.1.2.1.1,r.2.1.2.1.2),m)=some (m1,x1) from a1,bnd_s]
  simp only[a3,nEq_r,chk_t]
  rw[show Zbj ((r.2.1.2.2.1.1,r.2.1.2.2.1.2),m1)=some (m2,x2) from b1,bnd_s]
  simp only[b3,nEq_r,chk_t]
 unfold Zr
 rw[show Zcm ((r.2.1.1,((r.2.1.2.1.1,r.2.1.2.1.2),((r.2.1.2.2.1.1,r.2.1.2.2.1.2),(r.2.1.2.2.2.1,r.2.1.2.2.2.2)))),m)=some (m2,(x1,x2)) from e,bnd_s]
 simp only[a3,b3,nEq_r,chk_t]
def chk1 {α:Type}(ok:α->Bool) (lt:α->α->Bool) (l:List α) (i:Nat):Bool:=match l[i]? with
 | none=>true
 | some y=>ok y&&(match i with
  | 0=>true
  | j+1=>match l[j]? with
   | some x=>lt x y
   | none=>true)
def chainB {α:Type}(ok:α->Bool) (lt:α->α->Bool) (l:List α):Bool:=(List.range l.length).all (chk1 ok lt l)
theorem chain_loop {α:Type}{ok:α->Bool}{lt:α->α->Bool}{l:List α}{step:Int->Option (Int ⊕ (Unit ⊕ Bool))}
  (hs:∀i,i<l.length->step (i:Int)=some (if chk1 ok lt l i=true then .inl ((i:Int)+1) else .inr (.inr false)))
  (he:step (l.length:Int)=some (.inr (.inl ()))):loopX step 0=some (if chainB ok lt l=true then .inl () else .inr false):=by
 obtain⟨r,h1,rfl⟩:=loop_inv (step:=step) (fun i s=>s=(i:Int)/\∀j,j<i->chk1 ok lt l j=true) l.length (fun r=>r=if chainB ok lt l=true then .inl () else .inr false) (by
  rintro i s hi ⟨rfl,h⟩
  rw[hs i hi]
  by_cases hc:chk1 ok lt l i=true
  ·left
   refine⟨_,by rw[if_pos hc],by omega,fun j hj=>?_⟩
   rcases Nat.lt_succ_iff_lt_or_eq.1 hj with a|rfl
   ·exact h j a
   ·exact hc
  ·right
   refine⟨_,by rw[if_neg hc], ?_⟩
   rw[if_neg]
   intro k
   exact hc (List.all_eq_true.1 k i (List.mem_range.2 hi))) (by
  rintro s ⟨rfl,h⟩
  refine⟨_,he, ?_⟩
  rw[if_pos]
  exact List.all_eq_true.2 fun j hj=>h j (List.mem_range.1 hj)) 0 ⟨rfl,fun j hj=>by omega⟩
 exact h1
def rowLt (x y:Row):Bool:=sLt x.1 y.1
def markOk (m:Mark):Bool:=decide (1<=m.1/\m.1<=9)&&(decide (0<=m.2.1/\m.2.1<=65535)&&decide (0<=m.2.2/\m.2.2<=6))
def markLt (x y:Mark):Bool:=decide (x.1<y.1)
def tabOk (t:Tab):Bool:=chainB rowOk rowLt t.1&&(chainB markOk markLt t.2.2&&(decide (t.1.length<=8)&&decide (0<=t.2.1/\t.2.1<=7)))
theorem chk1_0 {α:Type}{ok:α->Bool}{lt:α->α->Bool}{l:List α}(h:0<l.length):chk1 ok lt l 0=ok l[0]:=by
 unfold chk1;rw[List.getElem?_eq_getElem h];simp
theorem chk1_s {α:Type}{ok:α->Bool}{lt:α->α->Bool}{l:List α}{j:Nat}(h:j+1<l.length):chk1 ok lt l (j+1)=(ok l[j+1]&&lt l[j] l[j+1]):=by
 unfold chk1;rw[List.getElem?_eq_getElem h];simp only[List.getElem?_eq_getElem (show j<l.length by omega)]
theorem s_TabOk0 {t:Tab}(h:smT 1048576 t):loopX (Zdy t) 0=some (if chainB rowOk rowLt t.1=true then .inl () else .inr false):=by
 refine chain_loop (fun i hi=>?_) ?_
 ·have hl:=h.1
  have e:Zbb ((t.1[i]).1,(((t.1[i]).2.1.1,(t.1[i]).2.1.2),(((t.1[i]).2.2.1.1,(t.1[i]).2.2.1.2),((t.1[i]).2.2.2.1,(t.1[i]).2.2.2.2))))=some (rowOk t.1[i]):=s_RowOk (r:=t.1[i]) (by have:=(h.2.1 _ (List.getElem_mem hi)).1;omega)
  unfold Zdy
  rw[iLt_y (by simp only[lLen_def];omega),cnd_t,idx_at hi,bnd_s,e,bnd_s]
  cases i with
  | zero =>
   rw[chk1_0 hi]
   cases hr:rowOk t.1[0] with
   | false=>rfl
   | true=>rfl
  | succ j =>
   rw[chk1_s hi]
   cases hr:rowOk t.1[j+1] with
   | false=>rfl
   | true =>
    rw[bNot_t,cnd_f,iGt_y (by omega),cnd_t,show iSub .i64 ((j+1:Nat):Int) 1=(j:Int) from by rw[iSub_ok (by omega) (by omega)];omega,idx_at (show j<t.1.length by omega),bnd_s,bnd_s]
    unfold rowLt
    cases sLt t.1[j].1 t.1[j+1].1 with
    | false=>rfl
    | true=>rw[bNot_t,cnd_f,iAdd_ok (by omega) (by omega)];rfl
 ·have hl:=h.1
  unfold Zdy
  rw[iLt_n (by simp only[lLen_def];omega),cnd_f]
theorem i_TabOk0 {t:Tab}(h:smT 1048576 t):loopX (Zeh t) 0=some (if chainB rowOk rowLt t.1=true then .inl () else .inr false):=by
 refine chain_loop (fun i hi=>?_) ?_
 ·have hl:=h.1
  have e:Zbf ((t.1[i]).1,(((t.1[i]).2.1.1,(t.1[i]).2.1.2),(((t.1[i]).2.2.1.1,(t.1[i]).2.2.1.2),((t.1[i]).2.2.2.1,(t.1[i]).2.2.2.2))))=some (rowOk t.1[i]):=i_RowOk (r:=t.1[i]) (by have:=(h.2.1 _ (List.getElem_mem hi)).1;omega)
  unfold Zeh
  rw[iLt_y (by simp only[lLen_def];omega),cnd_t,idx_at hi,bnd_s,e,bnd_s]
  cases i with
  | zero =>
   rw[chk1_0 hi]
   cases hr:rowOk t.1[0] with
   | false=>rfl
   | true=>rfl
  | succ j =>
   rw[chk1_s hi]
   cases hr:rowOk t.1[j+1] with
   | false=>rfl
   | true =>
    rw[bNot_t,cnd_f,iGt_y (by omega),cnd_t,show iSub .i64 ((j+1:Nat):Int) 1=(j:Int) from by rw[iSub_ok (by omega) (by omega)];omega,idx_at (show j<t.1.length by omega),bnd_s]
    unfold rowLt
    cases sLt t.1[j].1 t.1[j+1].1 with
    | false=>rfl
    | true=>rw[bNot_t,cnd_f,iAdd_ok (by omega) (by omega)];rfl
 ·have hl:=h.1
  unfold Zeh
  rw[iLt_n (by simp only[lLen_def];omega),cnd_f]
theorem s_l12Mark (m:Mark):Zcb m=some (markOk m):=by
 unfold Zcb markOk Zca
 simp only[s_In,bnd_s,cnd_and]
theorem s_TabOk1 {t:Tab}(h:smT 1048576 t):loopX (Zdz t) 0=some (if chainB markOk markLt t.2.2=true then .inl () else .inr false):=by
 refine chain_loop (fun i hi=>?_) ?_
 ·have hl:=h.2.2
  have e:Zcb (t.2.2[i].1,(t.2.2[i].2.1,t.2.2[i].2.2))=some (markOk t.2.2[i]):=s_l12Mark _
  unfold Zdz
  rw[iLt_y (by simp only[lLen_def];omega),cnd_t,idx_at hi,bnd_s,e,bnd_s]
  cases i with
  | zero =>
   rw[chk1_0 hi]
   cases hr:markOk t.2.2[0] with
   | false=>rfl
   | true=>rfl
  | succ j =>
   rw[chk1_s hi]
   cases hr:markOk t.2.2[j+1] with
   | false=>rfl
   | true =>
    rw[bNot_t,cnd_f,iGt_y (by omega),cnd_t,show iSub .i64 ((j+1:Nat):Int) 1=(j:Int) from by rw[iSub_ok (by omega) (by omega)];omega,idx_at (show j<t.2.2.length by omega),bnd_s,bnd_s]
    unfold markLt
    by_cases hlt:t.2.2[j].1<t.2.2[j+1].1
    ·rw[iGe_n (by omega),cnd_f,iAdd_ok (by omega) (by omega),decide_eq_true hlt];rfl
    ·rw[iGe_y (by omega),cnd_t,decide_eq_false hlt];rfl
 ·have hl:=h.2.2
  unfold Zdz
  rw[iLt_n (by simp only[lLen_def];omega),cnd_f]
theorem i_TabOk1 {t:Tab}(h:smT 1048576 t):loopX (Zei t) 0=some (if chainB markOk markLt t.2.2=true then .inl () else .inr false):=by
 refine chain_loop (fun i hi=>?_) ?_
 ·have hl:=h.2.2
  unfold Zei Zch
  rw[iLt_y (by simp only[lLen_def];omega),cnd_t,idx_at hi,bnd_s]
  simp only[i_In,bnd_s]
  have key:∀a b c:Bool,∀rest:Option (Int ⊕ (Unit ⊕ Bool)),cnd (bNot a) (some (.inr (.inr false))) (cnd (bNot b) (some (.inr (.inr false))) (cnd (bNot c) (some (.inr (.inr false))) rest))=if (a&&(b&&c))=true then rest else some (.inr (.inr false)):=by
   intro a b c rest;cases a<;>cases b<;>cases c<;>rfl
  rw[key]
  have mk:∀m:Mark,(decide (1<=m.1/\m.1<=9)&&(decide (0<=m.2.1/\m.2.1<=65535)&&decide (0<=m.2.2/\m.2.2<=6)))=markOk m:=fun m=>rfl
  cases i with
  | zero =>
   rw[chk1_0 hi,mk]
   cases hr:markOk t.2.2[0] with
   | false=>rfl
   | true=>rfl
  | succ j =>
   rw[chk1_s hi,mk]
   cases hr:markOk t.2.2[j+1] with
   | false=>rfl
   | true =>
    rw[if_pos rfl,iGt_y (by omega),cnd_t,show iSub .i64 ((j+1:Nat):Int) 1=(j:Int) from by rw[iSub_ok (by omega) (by omega)];omega,idx_at (show j<t.2.2.length by omega),bnd_s]
    unfold markLt
    by_cases hlt:t.2.2[j].1<t.2.2[j+1].1
    ·rw[iGe_n (by omega),cnd_f,iAdd_ok (by omega) (by omega),decide_eq_true hlt];rfl
    ·rw[iGe_y (by omega),cnd_t,decide_eq_false hlt];rfl
 ·have hl:=h.2.2
  unfold Zei
  rw[iLt_n (by simp only[lLen_def];omega),cnd_f]
theorem tab_end (a b:Bool) (n:Nat) (c:Int):(joinX (some (if a=true then .inl () else .inr false):Option (Unit ⊕ Bool)) fun _=>joinX (some (if b=true then .inl () else .inr false):Option (Unit ⊕ Bool)) fun _=>cnd (iLe (n:Int) 8) (some (decide (0<=c/\c<=7))) (some false))=some (a&&(b&&(decide (n<=8)&&decide (0<=c/\c<=7)))):=by
 rw[cnd_and,show iLe (n:Int) 8=decide (n<=8) by simp only[iLe];rw[Bool.eq_iff_iff];simp;omega]
 cases a<;>cases b<;>rfl
theorem s_TabOk {t:Tab}(h:smT 1048576 t):Zw t=some (tabOk t):=by
 unfold Zw tabOk
 rw[s_TabOk0 h,s_TabOk1 h]
 simp only[s_In,bnd_s,lLen_def,tab_end]
theorem i_TabOk {t:Tab}(h:smT 1048576 t):Zx t=some (tabOk t):=by
 unfold Zx tabOk
 rw[i_TabOk0 h,i_TabOk1 h]
 simp only[i_In,bnd_s,lLen_def,tab_end]
end
end Go.Vs
