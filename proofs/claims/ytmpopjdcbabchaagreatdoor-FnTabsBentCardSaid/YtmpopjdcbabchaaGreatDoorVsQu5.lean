import Derived.Test.YtmpopjdcbabchaaGreatDoorVsW5
import Derived.Test.YtmpopjdcbabchaaGreatDoorVsQu4
set_option linter.all false
namespace Go.Vs
noncomputable section
abbrev Row:=List UInt8×Cell×Cell×Int×Bool
def smR (B:Nat) (r:Row):Prop:=r.1.length<=B/\r.2.1.2.length<=B/\r.2.2.1.2.length<=B
theorem smR.mono {A B:Nat}{r:Row}(h:smR A r) (hab:A<=B):smR B r:=⟨Nat.le_trans h.1 hab,Nat.le_trans h.2.1 hab,Nat.le_trans h.2.2 hab⟩
def noCell (c:Cell):Bool:=decide (c.1=0)&&c.2.isEmpty
def nameB (c:UInt8):Bool:=decide (97<=c.toNat/\c.toNat<=122)||decide (48<=c.toNat/\c.toNat<=57)
def nameOk (s:List UInt8):Bool:=s.all nameB&&decide (1<=s.length/\s.length<=6)
def rOldOk (o:Cell) (has:Int) (aside:Bool):Bool:=if has=2 then noCell o else decide (1<=o.1/\o.1<=5)&&decide (o.2.length<=20)&&((cellText o).isSome||(aside&&decide (has=1)))
def rNewOk (n:Cell) (has:Int):Bool:=if has=1 then noCell n else decide (n.1=0)&&(cellText n).isSome
def rowOk (r:Row):Bool:=nameOk r.1&&decide (1<=r.2.2.2.1/\r.2.2.2.1<=3)&&rOldOk r.2.1 r.2.2.2.1 r.2.2.2.2&&rNewOk r.2.2.1 r.2.2.2.1&&(decide (r.2.2.2.1≠3)||sameText r.2.1 r.2.2.1)
theorem noCell_eq {c:Cell}(h:noCell c=true):c=(0,[]):=by
 obtain⟨a,b⟩:=c
 simp only[noCell,Bool.and_eq_true,decide_eq_true_eq,List.isEmpty_iff]at h
 rw[h.1,h.2]
theorem rowOk_has {r:Row}(h:rowOk r=true):nameOk r.1=true/\1<=r.2.2.2.1/\r.2.2.2.1<=3/\rOldOk r.2.1 r.2.2.2.1 r.2.2.2.2=true/\rNewOk r.2.2.1 r.2.2.2.1=true/\(r.2.2.2.1=3->sameText r.2.1 r.2.2.1=true):=by
 simp only[rowOk,Bool.and_eq_true,Bool.or_eq_true,decide_eq_true_eq]at h
 obtain⟨⟨⟨⟨a,b⟩,c⟩,d⟩,e⟩:=h
 exact⟨a,b.1,b.2,c,d,fun h3=>e.elim (fun k=>(k h3).elim) id⟩
theorem nameOk_len {s:List UInt8}(h:nameOk s=true):1<=s.length/\s.length<=6:=by
 simp only[nameOk,Bool.and_eq_true,decide_eq_true_eq]at h
 exact h.2
theorem rOldOk_some {o:Cell}{has:Int}{aside:Bool}(h:rOldOk o has aside=true) (h2:has≠2):1<=o.1/\o.1<=5/\o.2.length<=20/\((cellText o).isSome=true\/(aside=true/\has=1)):=by
 simp only[rOldOk,if_neg h2,Bool.and_eq_true,Bool.or_eq_true,decide_eq_true_eq]at h
 exact⟨h.1.1.1,h.1.1.2,h.1.2,h.2⟩
theorem rNewOk_some {n:Cell}{has:Int}(h:rNewOk n has=true) (h2:has≠1):n.1=0/\(cellText n).isSome=true/\n.2.length<=20:=by
 simp only[rNewOk,if_neg h2,Bool.and_eq_true,decide_eq_true_eq]at h
 refine⟨h.1,h.2, ?_⟩
 obtain⟨t,ht⟩:=Option.isSome_iff_exists.1 h.2
 have:=(cellText_ok ht).1
 simp only[cellOk,Bool.and_eq_true,decide_eq_true_eq]at this
 exact this.2
theorem s_NameOk {s : List UInt8} (hl : s.length < 9223372036854775807) : Zbe s = some (nameOk s) := by
  unfold Zbe
  have stp : ∀ i (h : i < s.length), Zby s (i : Int) = if nameB s[i] then some (.inl ((i + 1 : Nat) : Int)) else some (.inr (.inr false)) := by
    intro i h
    unfold Zby
    rw [iLt_y (by rw [lLen_def]; omega), cnd_t, idx_at h]
    simp only [bnd_s, conv64, s_In, iAdd_1 (show i < 9223372036854775807 by omega)]
    unfold nameB
    by_cases h1 : 97 ≤ s[i].toNat ∧ s[i].toNat ≤ 122
    · rw [decide_eq_true (show (97 : Int) ≤ (s[i].toNat : Int) ∧ (s[i].toNat : Int) ≤ 122 by omega), decide_eq_true h1]; rfl
    · rw [decide_eq_false (show ¬ ((97 : Int) ≤ (s[i].toNat : Int) ∧ (s[i].toNat : Int) ≤ 122) by omega), decide_eq_false h1]
      by_cases h2 : 48 ≤ s[i].toNat ∧ s[i].toNat ≤ 57
      · rw [decide_eq_true (show (48 : Int) ≤ (s[i].toNat : Int) ∧ (s[i].toNat : Int) ≤ 57 by omega), decide_eq_true h2]; rfl
      · rw [decide_eq_false (show ¬ ((48 : Int) ≤ (s[i].toNat : Int) ∧ (s[i].toNat : Int) ≤ 57) by omega), decide_eq_false h2]; rfl
  obtain ⟨r, h1, h2⟩ := loop_inv (step := Zby s) (fun i z => z = (i : Int) ∧ i ≤ s.length ∧ s.all nameB = (s.drop i).all nameB) s.length
    (fun r => joinX (some r) (fun (z1 : Unit) => (bnd (Zb ((lLen s), (1, 6))) (fun z2 => (some z2)))) = some (nameOk s)) (by
      rintro i z hi ⟨rfl, _, hp⟩
      rw [stp i hi]
      rw [List.drop_eq_getElem_cons hi, List.all_cons] at hp
      cases hb : nameB s[i] with
      | true =>
        left
        rw [hb, Bool.true_and] at hp
        exact ⟨_, by rw [if_pos rfl], rfl, hi, hp⟩
      | false =>
        right
        rw [hb, Bool.false_and] at hp
        exact ⟨_, by rw [if_neg (by decide)], by rw [joinX_r, nameOk, hp]; rfl⟩)
    (by
      rintro z ⟨rfl, _, hp⟩
      refine ⟨.inl (), ?_, ?_⟩
      · unfold Zby
        rw [iLt_n (by rw [lLen_def]; exact Int.le_refl _), cnd_f]
      · rw [joinX_l, s_In, bnd_s, nameOk, hp, List.drop_length]
        simp only [List.all_nil, Bool.true_and, lLen_def]
        exact congrArg some (decide_eq_decide.2 (by omega))) 0 ⟨rfl, Nat.zero_le _, by rw [List.drop_zero]⟩
  rw [h1, h2]
theorem i_NameOk {s:List UInt8}(hl:s.length<9223372036854775807):Zcl s=some (nameOk s):=s_NameOk hl
def rowText (r:Row):Option (List UInt8):=if iAnd .i64 r.2.2.2.1 2=2 then cellText r.2.2.1 else cellText r.2.1
theorem sCopyRow_ok {r:Row}(h:smR 1048576 r):Zh r=some r:=by
 have e:∀c:Cell,c.2.length<=1048576->Zr c=some c:=fun c h=>by
  unfold Zr;rw[room_ok (by omega)];rfl
 unfold Zh
 rw[e (r.2.1.1,r.2.1.2) h.2.1,bnd_s,e (r.2.2.1.1,r.2.2.1.2) h.2.2];rfl
theorem iCopyRow_ok {r:Row}(h:smR 1048576 r):Zk r=some r:=by
 have e:∀c:Cell,c.2.length<=1048576->Zcj c=some c:=fun c h=>by
  unfold Zcj;rw[joined1_ok (by omega)];rfl
 unfold Zk
 rw[e (r.2.1.1,r.2.1.2) h.2.1,bnd_s,e (r.2.2.1.1,r.2.2.1.2) h.2.2];rfl
theorem iEq_d (a b:Int):iEq a b=decide (a=b):=by simp only[iEq];rfl
def rowOf (ph:Int) (key:List UInt8) (cs:Int) (t:List UInt8):Row×Int :=
 if (0<=ph/\ph<=7)/\nameOk key=true/\(1<=cs/\cs<=5) then
  match cellOf 0 t with
  | none=>(([],((0,[]),((0,[]),(0,false)))),1)
  | some n =>
   if ph=0\/ph=7 then (match cellOf cs t with
    | none=>(([],((0,[]),((0,[]),(0,false)))),3)
    | some o=>((key,(o,((0,[]),(1,false)))),0))
   else if ph=4\/ph=5 then ((key,((0,[]),(n,(2,false)))),0)
   else if ph=6 then (match cellOf cs t with
    | none=>((key,((0,[]),(n,(2,true)))),0)
    | some o=>((key,(o,((0,[]),(1,false)))),0))
   else (match cellOf cs t with
    | none=>((key,((0,[]),(n,(2,true)))),0)
    | some o=>((key,(o,(n,(3,false)))),0))
 else (([],((0,[]),((0,[]),(0,false)))),1)
theorem s_RowOf {ph cs:Int}{key t:List UInt8}(hk:key.length<9223372036854775807) (ht:t.length<=1048576):Zbn (ph,(key,(cs,t)))=some (rowOf ph key cs t):=by
 unfold Zbn rowOf
 simp only[s_CellOf ht,bnd_s,s_In,s_NameOk hk,iEq_d]
 by_cases h1:0<=ph/\ph<=7
 case neg=>rw[decide_eq_false h1,if_neg (fun h=>h1 h.1)];rfl
 rw[decide_eq_true h1,bNot_t,cnd_f]
 cases h2:nameOk key with
 | false=>rw[if_neg (fun h=>by cases h.2.1)];rfl
 | true =>
 rw[bNot_t,cnd_f]
 by_cases h3:1<=cs/\cs<=5
 case neg=>rw[decide_eq_false h3,if_neg (fun h=>h3 h.2.2)];rfl
 rw[decide_eq_true h3,bNot_t,cnd_f,if_pos ⟨h1,rfl,h3⟩]
 cases h4:cellOf 0 t with
 | none=>rfl
 | some n =>
 simp only[cR,bNot_t,cnd_f]
 by_cases p0:ph=0
 ·subst p0;cases cellOf cs t<;>rfl
 by_cases p7:ph=7
 ·subst p7;cases cellOf cs t<;>rfl
 by_cases p4:ph=4
 ·subst p4;cases cellOf cs t<;>rfl
 by_cases p5:ph=5
 ·subst p5;cases cellOf cs t<;>rfl
 by_cases p6:ph=6
 ·subst p6;cases cellOf cs t<;>rfl
 rw[decide_eq_false p0,decide_eq_false p7,decide_eq_false p4,decide_eq_false p5,decide_eq_false p6,if_neg (by omega),if_neg (by omega),if_neg p6]
 cases cellOf cs t<;>rfl
theorem s_l9None (c:Cell):Zu c=some (noCell c):=by
 obtain⟨t,b⟩:=c
 unfold Zu noCell
 simp only[iEq,lLen_def]
 by_cases h:t=0
 ·subst h
  rw[show ((0:Int)==0)=true from rfl,cnd_t,decide_eq_true rfl,Bool.true_and]
  cases b with
  | nil=>rfl
  | cons x l =>
   have:(((x::l).length:Int)==0)=false:=by simp;omega
   rw[this];rfl
 ·have:(t==0)=false:=by simpa using h
  rw[this,cnd_f,decide_eq_false h];rfl
theorem i_sameZero (c:Cell):Zj ((c.1,c.2),(0,[]))=some (noCell c):=by
 obtain⟨t,b⟩:=c
 unfold Zj noCell
 simp only[iEq,sEq]
 by_cases h:t=0
 ·subst h
  rw[show ((0:Int)==0)=true from rfl,cnd_t,decide_eq_true rfl,Bool.true_and]
  cases b<;>rfl
 ·have:(t==0)=false:=by simpa using h
  rw[this,cnd_f,decide_eq_false h];rfl
theorem optR_2 (o:Option (List UInt8)):(optR o).2=o.isSome:=by cases o<;>rfl
theorem cellOk_old {o:Cell}(h:1<=o.1/\o.1<=5):cellOk o=decide (o.2.length<=20):=by
 unfold cellOk
 rw[decide_eq_true (show 0<=o.1/\o.1<=5 by omega),Bool.true_and]
theorem s_RowOk {r:Row}(hl:r.1.length<9223372036854775807):Zm r=some (rowOk r):=by
 obtain⟨key,⟨ot,ob⟩,⟨nt,nb⟩,has,aside⟩:=r
 have n1:Zbe key=some (nameOk key):=s_NameOk hl
 have n2:=s_CellText (ot,ob)
 have n3:=s_CellText (nt,nb)
 have n4:=s_l9None (ot,ob)
 have n5:=s_l9None (nt,nb)
 have n6:=s_SameText (ot,ob) (nt,nb)
 have n7:=s_CellOk (ot,ob)
 have nI:Zb (has,(1,3))=some (decide (1<=has/\has<=3)):=s_In _ _ _
 have nT:Zb (ot,(1,5))=some (decide (1<=ot/\ot<=5)):=s_In _ _ _
 unfold Zm rowOk
 dsimp only
 rw[n1,bnd_s]
 cases hn:nameOk key with
 | false=>rfl
 | true =>
 rw[bNot_t,cnd_f,nI,bnd_s]
 by_cases hh:1<=has/\has<=3
 case neg=>rw[decide_eq_false hh];rfl
 rw[decide_eq_true hh,bNot_t,cnd_f]
 rcases (show has=1\/has=2\/has=3 by omega) with rfl|rfl|rfl
 ·have o1:Ze (key,(ot,ob),(nt,nb),1,aside)=some true:=congrArg some (show iEq (iAnd .i64 1 1) 1=true by decide +kernel)
  have o2:Zd (key,(ot,ob),(nt,nb),1,aside)=some false:=congrArg some (show iEq (iAnd .i64 1 2) 2=false by decide +kernel)
  simp only[o1,o2,n2,n3,n4,n5,n6,n7,nT,bnd_s,bNot_t,bNot_f,cnd_t,cnd_f,optR_2]
  rw[show iNe 1 3=true from rfl,cnd_t]
  unfold rOldOk rNewOk
  rw[if_neg (by decide),if_pos rfl]
  by_cases hT:1<=ot/\ot<=5
  ·rw[cellOk_old (o:=(ot,ob)) hT]
   generalize noCell (nt,nb)=b1
   generalize decide (ob.length<=20)=b2
   generalize (cellText (ot,ob)).isSome=b3
   simp only[decide_eq_true hT]
   cases b1<;>cases b2<;>cases b3<;>cases aside<;>rfl
  ·simp only[decide_eq_false hT]
   generalize noCell (nt,nb)=b1
   cases b1<;>rfl
 ·have o1:Ze (key,(ot,ob),(nt,nb),2,aside)=some false:=congrArg some (show iEq (iAnd .i64 2 1) 1=false by decide +kernel)
  have o2:Zd (key,(ot,ob),(nt,nb),2,aside)=some true:=congrArg some (show iEq (iAnd .i64 2 2) 2=true by decide +kernel)
  simp only[o1,o2,n2,n3,n4,n5,n6,n7,nT,bnd_s,bNot_t,bNot_f,cnd_t,cnd_f,optR_2]
  rw[show iNe 2 3=true from rfl,cnd_t]
  unfold rOldOk rNewOk
  rw[if_pos rfl,if_neg (by decide)]
  have e0:iNe nt 0=!decide (nt=0):=by
   by_cases h:nt=0
   ·subst h;rfl
   ·rw[iNe_y h,decide_eq_false h];rfl
  rw[e0]
  generalize noCell (ot,ob)=b1
  generalize decide (nt=0)=b2
  generalize (cellText (nt,nb)).isSome=b3
  cases b1<;>cases b2<;>cases b3<;>rfl
 ·have o1:Ze (key,(ot,ob),(nt,nb),3,aside)=some true:=congrArg some (show iEq (iAnd .i64 3 1) 1=true by decide +kernel)
  have o2:Zd (key,(ot,ob),(nt,nb),3,aside)=some true:=congrArg some (show iEq (iAnd .i64 3 2) 2=true by decide +kernel)
  simp only[o1,o2,n2,n3,n4,n5,n6,n7,nT,bnd_s,bNot_t,bNot_f,cnd_t,cnd_f,optR_2]
  rw[show iNe 3 3=false from rfl]
  simp only[cnd_f]
  unfold rOldOk rNewOk
  rw[if_neg (by decide),if_neg (by decide)]
  have e0:iNe nt 0=!decide (nt=0):=by
   by_cases h:nt=0
   ·subst h;rfl
   ·rw[iNe_y h,decide_eq_false h];rfl
  rw[e0]
  by_cases hT:1<=ot/\ot<=5
  ·rw[cellOk_old (o:=(ot,ob)) hT]
   simp only[decide_eq_true hT]
   generalize decide (nt=0)=b1
   generalize decide (ob.length<=20)=b2
   generalize (cellText (ot,ob)).isSome=b3
   generalize (cellText (nt,nb)).isSome=b4
   generalize sameText (ot,ob) (nt,nb)=b5
   cases b1<;>cases b2<;>cases b3<;>cases b4<;>cases b5<;>cases aside<;>rfl
  ·simp only[decide_eq_false hT]
   generalize decide (nt=0)=b1
   generalize (cellText (nt,nb)).isSome=b4
   cases b1<;>cases b4<;>rfl
theorem i_RowOk {r:Row}(hl:r.1.length<9223372036854775807):Zbj r=some (rowOk r):=by
 obtain⟨key,⟨ot,ob⟩,⟨nt,nb⟩,has,aside⟩:=r
 have n1:Zcl key=some (nameOk key):=i_NameOk hl
 have n2:=i_CellText (ot,ob)
 have n3:=i_CellText (nt,nb)
 have n4:Zj ((ot,ob),(0,[]))=some (noCell (ot,ob)):=i_sameZero (ot,ob)
 have n5:Zj ((nt,nb),(0,[]))=some (noCell (nt,nb)):=i_sameZero (nt,nb)
 have n6:=i_SameText (ot,ob) (nt,nb)
 have n7:=i_CellOk (ot,ob)
 have nI:Zg (has,(1,3))=some (decide (1<=has/\has<=3)):=i_In _ _ _
 unfold Zbj rowOk
 dsimp only
 rw[n1,bnd_s]
 cases hn:nameOk key with
 | false=>rfl
 | true =>
 rw[bNot_t,cnd_f,nI,bnd_s]
 by_cases hh:1<=has/\has<=3
 case neg=>rw[decide_eq_false hh];rfl
 rw[decide_eq_true hh,bNot_t,cnd_f]
 simp only[n2,n3,n4,n5,n6,n7,bnd_s,optR_2]
 have e0:iEq nt 0=decide (nt=0):=by
  by_cases h:nt=0
  ·subst h;rfl
  ·rw[iEq_n h,decide_eq_false h]
 have eC:cnd (cellOk (ot,ob)) (cnd (iNe ot 0) (cnd (cellText (ot,ob)).isSome (some (Sum.inl (β:=Bool) true)) (cnd aside (some (.inl (iEq has 1))) (some (.inl false)))) (some (.inl false))) (some (.inl false))=some (.inl (decide (1<=ot/\ot<=5)&&decide (ob.length<=20)&&((cellText (ot,ob)).isSome||(aside&&iEq has 1)))):=by
  by_cases hT:1<=ot/\ot<=5
  ·rw[cellOk_old (o:=(ot,ob)) hT,decide_eq_true hT,iNe_y (by omega)]
   generalize decide (ob.length<=20)=b2
   generalize (cellText (ot,ob)).isSome=b3
   generalize iEq has 1=b4
   cases b2<;>cases b3<;>cases b4<;>cases aside<;>rfl
  ·rw[decide_eq_false hT]
   by_cases h0:ot=0
   ·subst h0
    rw[show iNe 0 0=false from rfl]
    cases cellOk (0,ob)<;>rfl
   ·have:cellOk (ot,ob)=false:=by
     unfold cellOk
     rw[decide_eq_false (by simp only;omega)];rfl
    rw[this];rfl
 rw[eC,e0]
 rcases (show has=1\/has=2\/has=3 by omega) with rfl|rfl|rfl
 ·unfold rOldOk rNewOk
  rw[if_neg (by decide),if_pos rfl,show iNe 1 2=true from rfl,show iNe 1 1=false from rfl,show iNe 1 3=true from rfl,show iEq 1 1=true from rfl]
  generalize (decide (1<=ot/\ot<=5))=b0
  generalize noCell (nt,nb)=b1
  generalize decide (ob.length<=20)=b2
  generalize (cellText (ot,ob)).isSome=b3
  cases b0<;>cases b1<;>cases b2<;>cases b3<;>cases aside<;>rfl
 ·unfold rOldOk rNewOk
  rw[if_pos rfl,if_neg (by decide),show iNe 2 2=false from rfl,show iNe 2 1=true from rfl,show iNe 2 3=true from rfl]
  generalize noCell (ot,ob)=b1
  generalize decide (nt=0)=b2
  generalize (cellText (nt,nb)).isSome=b3
  cases b1<;>cases b2<;>cases b3<;>rfl
 ·unfold rOldOk rNewOk
  rw[if_neg (by decide),if_neg (by decide),show iNe 3 2=true from rfl,show iNe 3 1=true from rfl,show iNe 3 3=false from rfl,show iEq 3 1=false from rfl]
  generalize (decide (1<=ot/\ot<=5))=b0
  generalize decide (nt=0)=b1
  generalize decide (ob.length<=20)=b2
  generalize (cellText (ot,ob)).isSome=b3
  generalize (cellText (nt,nb)).isSome=b4
  generalize sameText (ot,ob) (nt,nb)=b5
  cases b0<;>cases b1<;>cases b2<;>cases b3<;>cases b4<;>cases b5<;>cases aside<;>rfl
theorem s_l9New (r:Row) (h:rowOk r=true):Zd r=some (decide (r.2.2.2.1≠1)):=by
 obtain⟨_,h1,h3,_⟩:=rowOk_has h
 unfold Zd
 rcases (show r.2.2.2.1=1\/r.2.2.2.1=2\/r.2.2.2.1=3 by omega) with e|e|e<;>rw[e]
 ·exact congrArg some (show iEq (iAnd .i64 1 2) 2=false by decide +kernel)
 ·exact congrArg some (show iEq (iAnd .i64 2 2) 2=true by decide +kernel)
 ·exact congrArg some (show iEq (iAnd .i64 3 2) 2=true by decide +kernel)
theorem s_l9Old (r:Row) (h:rowOk r=true):Ze r=some (decide (r.2.2.2.1≠2)):=by
 obtain⟨_,h1,h3,_⟩:=rowOk_has h
 unfold Ze
 rcases (show r.2.2.2.1=1\/r.2.2.2.1=2\/r.2.2.2.1=3 by omega) with e|e|e<;>rw[e]
 ·exact congrArg some (show iEq (iAnd .i64 1 1) 1=true by decide +kernel)
 ·exact congrArg some (show iEq (iAnd .i64 2 1) 1=false by decide +kernel)
 ·exact congrArg some (show iEq (iAnd .i64 3 1) 1=true by decide +kernel)
def fillRow (r:Row):Row:=if rowOk r=true/\r.2.2.2.1=1 then (match turn r.2.1 0 with
 | (_,false)=>(r.1,r.2.1,r.2.2.1,r.2.2.2.1,true)
 | (d,true)=>(r.1,r.2.1,d,3,r.2.2.2.2)) else r
theorem s_FillRow {r:Row}(h:smR 1048576 r):Zca r=some (fillRow r):=by
 have hk:=h.1
 have e0:Zh (r.1,((r.2.1.1,r.2.1.2),((r.2.2.1.1,r.2.2.1.2),(r.2.2.2.1,r.2.2.2.2))))=some r:=sCopyRow_ok h
 have e1:Zm (r.1,((r.2.1.1,r.2.1.2),((r.2.2.1.1,r.2.2.1.2),(r.2.2.2.1,r.2.2.2.2))))=some (rowOk r):=s_RowOk (r:=r) (by omega)
 have e2:Zbz ((r.2.1.1,r.2.1.2),0)=some (turn r.2.1 0):=s_Turn (c:=r.2.1) h.2.1
 unfold Zca fillRow
 simp only[e0,e1,e2,bnd_s]
 cases hr:rowOk r with
 | false=>rw[if_neg (fun k=>by cases k.1)];rfl
 | true =>
  rw[bNot_t,cnd_f,show Zd (r.1,((r.2.1.1,r.2.1.2),((r.2.2.1.1,r.2.2.1.2),(r.2.2.2.1,r.2.2.2.2))))=some (decide (r.2.2.2.1≠1)) from s_l9New r hr,bnd_s]
  by_cases h1:r.2.2.2.1=1
  ·rw[decide_eq_false (by simpa using h1),cnd_f,if_pos ⟨rfl,h1⟩]
   cases hv:turn r.2.1 0 with
   | mk d ok =>
    cases ok with
    | false=>rfl
    | true=>rfl
  ·rw[decide_eq_true h1,cnd_t,if_neg (fun k=>h1 k.2)]
def zCell:Cell:=(0,[])
def backRow (r:Row):Row:=if rowOk r=true then (if r.2.2.2.1=3 then (r.1,r.2.1,zCell,1,false) else if r.2.2.2.1=2 then (r.1,r.2.1,r.2.2.1,r.2.2.2.1,true) else r) else r
theorem s_BackRow {r:Row}(h:smR 1048576 r):Zcb r=some (backRow r):=by
 have hk:=h.1
 unfold Zcb backRow
 rw[show Zh (r.1,((r.2.1.1,r.2.1.2),((r.2.2.1.1,r.2.2.1.2),(r.2.2.2.1,r.2.2.2.2))))=some r from sCopyRow_ok h,bnd_s,
  show Zm (r.1,((r.2.1.1,r.2.1.2),((r.2.2.1.1,r.2.2.1.2),(r.2.2.2.1,r.2.2.2.2))))=some (rowOk r) from s_RowOk (r:=r) (by omega),bnd_s]
 cases hr:rowOk r with
 | false=>rw[if_neg (by simp)];rfl
 | true =>
  obtain⟨_,g1,g3,_⟩:=rowOk_has hr
  rw[bNot_t,cnd_f,show Zd (r.1,((r.2.1.1,r.2.1.2),((r.2.2.1.1,r.2.2.1.2),(r.2.2.2.1,r.2.2.2.2))))=some (decide (r.2.2.2.1≠1)) from s_l9New r hr,bnd_s,if_pos rfl]
  have eo:Ze (r.1,((r.2.1.1,r.2.1.2),((r.2.2.1.1,r.2.2.1.2),(r.2.2.2.1,r.2.2.2.2))))=some (decide (r.2.2.2.1≠2)):=s_l9Old r hr
  by_cases h1:r.2.2.2.1=1
  ·rw[decide_eq_false (by simpa using h1),if_neg (by omega),if_neg (by omega)];rfl
  ·rw[decide_eq_true h1,bNot_t,cnd_f,eo,bnd_s]
   by_cases h2:r.2.2.2.1=2
   ·rw[decide_eq_false (by simpa using h2),if_neg (by omega),if_pos h2];rfl
   ·rw[decide_eq_true h2,if_pos (by omega)];rfl
end
end Go.Vs
