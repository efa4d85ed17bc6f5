import Derived.Test.YtbbdcgglfmhhpaaGreatDoorVsW5
import Derived.Test.YtbbdcgglfmhhpaaGreatDoorVsQl1
set_option linter.all false
namespace Go.Vs
noncomputable section
theorem flat_le (ls:List (List UInt8)) (i:Nat):(ls.take i).flatten.length<=ls.flatten.length:=by
 have h:=congrArg (fun l:List (List UInt8)=>l.flatten.length) (List.take_append_drop i ls)
 simp only[List.flatten_append,List.length_append]at h
 omega
theorem joined_ok {ls:List (List UInt8)}(hn:ls.length<4611686018427387904) (h:ls.flatten.length<=140737488355328):Zh ls=some ls.flatten:=by
 unfold Zh
 rw[loop_exact (fun i=>((ls.take i).flatten,(i:Int))) ls.length (.inl ls.flatten)]
 ·rfl
 ·intro i hi
  have e:(ls.take (i+1)).flatten=(ls.take i).flatten++ls[i]:=flat_take hi
  have hr:=flat_le ls (i+1)
  rw[e,List.length_append]at hr
  unfold Zce
  rw[iLt_y (by simp only[lLen_def];omega),cnd_t]
  simp only[idx_at hi,bnd_s]
  rw[room_ok (by omega),chk_t,e,iAdd_ok (by omega) (by omega)]
  rfl
 ·unfold Zce
  rw[iLt_n (by simp only[lLen_def];omega),cnd_f,List.take_length]
 ·rfl
theorem joined2_ok {a b:List UInt8}(hb:a.length+b.length<=140737488355328):Zh [a,b]=some (a++b):=by
 have e:[a,b].flatten=a++b:=by simp
 rw[joined_ok (by simp only[List.length_cons,List.length_nil];omega) (by rw[e,List.length_append];omega),e]
theorem iEq_x (a b:Int):iEq a b=decide (a=b):=by simp only[iEq];rfl
abbrev Cell:=Int×List UInt8
theorem szByteS_ok {l:List UInt8}{k:Int}(h0:0<=k) (hk:k<=4611686018427387904) (hl:l.length<=9223372036854775807):SzR (Zbv (l,k)) k ((l.length:Int)<=k):=by
 have e:iSub .i64 k (lLen l)=k-l.length:=iSub_ok (by simp only[lLen_def];omega) (by simp only[lLen_def];omega)
 exact (SzR.sub (P:=True) h0 hk hl fun h=>by simp only[e];exact SzR.done).mono (Int.le_refl _) fun h=>h.1
theorem toByteS_ok {x:List UInt8}(hl:x.length<=140737488355328):Zbi x=some x:=by
 have:Zbi x=toLst (fun b=>some b) 0 1 x:=rfl
 rw[this]
 exact toLst_ok (by omega) (by omega) fun _ _=>rfl
theorem eqByteS_ok {x:List UInt8}(hl:x.length<9223372036854775807):Zbs (x,x)=some true:=by
 unfold Zbs
 simp only[iNe_r,cnd_f]
 refine loop_exact (fun i=>(i:Int)) x.length true ?_ ?_ 0 rfl
 ·intro i hi
  unfold Zhi
  rw[iLt_y (by simp only[lLen_def];omega),cnd_t,idx_at hi,bnd_s,bnd_s,iNe_r,cnd_f,iAdd_1 (by omega)]
 ·unfold Zhi
  rw[iLt_n (by simp only[lLen_def];omega),cnd_f]
theorem szCell_ok {c:Cell}{k:Int}(h0:0<=k) (hk:k<=4611686018427387904) (hl:c.2.length<=9223372036854775807):SzR (Zdz (c,k)) k ((c.2.length:Int)<=k):=SzR.one h0 (szByteS_ok h0 hk hl)
theorem toCell_ok {c:Cell}(hl:c.2.length<=140737488355328):Zcj c=some c:=by
 unfold Zcj;rw[toByteS_ok hl];rfl
theorem eqCell_ok {c:Cell}(hl:c.2.length<9223372036854775807):Zdh (c,c)=some true:=by
 unfold Zdh
 simp only[iNe_r,cnd_f,eqByteS_ok hl,bnd_s,bNot_t]
def HB (m:Int) (b:UInt8) (m':Int):Prop:=m<9223372036854775807/\0<=m/\b=u8 (iConv .u8 m)/\m'=m+1
theorem markByteS_big {x:List UInt8}{m:Int}(h0:0<=m) (hm:m<=1152921504606846976) (hl:x.length<=140737488355328):∃m' x',Zbh (x,m)=some (m',x')/\Zbc (x',m)=some m'/\x'.length=x.length/\m<=m'/\m'<=m+x.length:=by
 obtain⟨l',m',h1,h2,h3,h4,h5⟩:=mark_loop (H:=HB) (K:=1) (x:=x) (m0:=m) (step:=Zgl) (by omega) (by omega) (by
  intro l k i hi hll hx hk1 hk2
  refine⟨u8 (iConv .u8 k),k+1, ?_,⟨by omega,by omega,rfl,rfl⟩, ?_, ?_⟩
  ·simp only[Zgl]
   rw[iLt_y (by simp only[lLen_def];omega),cnd_t]
   simp (disch:=omega) only[idx_n,hx,bnd_s,nOf_n,iAdd_ok]
  ·omega
  ·omega) (by
  intro l k hll
  simp only[Zgl]
  rw[iLt_n (by simp only[lLen_def];omega),cnd_f])
 refine⟨m',l', ?_, ?_,h3,h4,by omega⟩
 ·unfold Zbh
  simp only[h1,joinX_l,h3,nEq_r,chk_t]
 ·unfold Zbc
  simp only
  rw[held_loop (H:=HB) (m1:=m') (by omega) h2 (by
   rintro k k' i hi ⟨q1,q2,a,b⟩
   simp only[Zhj]
   rw[iLt_y (by simp only[lLen_def];omega),cnd_t,idx_at hi,bnd_s,a,iNe_r,cnd_f,b,iAdd_ok (by omega) (by omega),iAdd_ok (by omega) (by omega)]) (by
   intro k
   simp only[Zhj]
   rw[iLt_n (by simp only[lLen_def];omega),cnd_f])]
  rfl
theorem markByteS_ok {x:List UInt8}{m:Int}(h0:0<=m) (hm:m<=1152921504606846976) (hl:x.length<=1048576):∃m' x',Zbh (x,m)=some (m',x')/\Zbc (x',m)=some m'/\x'.length=x.length/\m<=m'/\m'<=m+1048576:=by
 obtain⟨m',x',a,b,c,d,e⟩:=markByteS_big (x:=x) h0 hm (by omega)
 exact⟨m',x',a,b,c,d,by omega⟩
def cellOk (c:Cell):Bool:=decide (0<=c.1/\c.1<=5)&&decide (c.2.length<=20)
def cellText (c:Cell):Option (List UInt8):=if cellOk c then decodeT c.1.toNat c.2 else none
def sameText (a b:Cell):Bool:=match cellText a,cellText b with
 | some x,some y=>x==y
 | _,_=>false
theorem cellText_ok {c:Cell}{t:List UInt8}(h:cellText c=some t):cellOk c=true/\decodeT c.1.toNat c.2=some t:=by
 unfold cellText at h
 split at h
 ·rename_i h1;exact⟨h1,h⟩
 ·cases h
theorem s_CellOk (c:Cell):Zu c=some (cellOk c):=by
 unfold Zu Zcq cellOk
 simp only[s_In,bnd_s,cnd_if]
 split
 ·rename_i h
  have:(0:Int)<=c.1/\c.1<=5:=by simpa using h
  rw[decide_eq_true this]
  simp only[Bool.true_and,iLe,lLen_def]
  exact congrArg some (decide_eq_decide.2 (by omega))
 ·rename_i h
  have:¬((0:Int)<=c.1/\c.1<=5):=by simpa using h
  rw[decide_eq_false this];rfl
theorem i_CellOk (c:Cell):Zda c=some (cellOk c):=s_CellOk c
theorem cellText_f {c:Cell}{F:Int×List UInt8->Option (List UInt8×Bool)}(hF:∀{cs:Nat}{b:List UInt8},cs<=5->b.length<=1048576->F ((cs:Int),b)=some (optR (decodeT cs b))) :
  (bnd (some (cellOk c)) (fun z1=>(cnd (bNot z1) (some ([],false)) (bnd (F (c.1,c.2)) (fun z2=>(some (z2.1,z2.2)))))))=some (optR (cellText c)):=by
 rw[bnd_s]
 unfold cellText
 cases h:cellOk c with
 | false=>rfl
 | true =>
  simp only[bNot_t,cnd_f,if_true]
  simp only[cellOk,Bool.and_eq_true,decide_eq_true_eq]at h
  obtain⟨⟨h0,h5⟩,hl⟩:=h
  obtain⟨t,b⟩:=c
  simp only at h0 h5 hl ⊢
  obtain⟨n,rfl⟩:=Int.eq_ofNat_of_zero_le h0
  rw[hF (by omega) (by omega),bnd_s];rfl
theorem s_CellText (c:Cell):Zj c=some (optR (cellText c)):=by
 unfold Zj
 rw[show Zu (c.1,c.2)=some (cellOk c) from s_CellOk c]
 exact cellText_f fun h1 h2=>s_Decode h1 h2
theorem i_CellText (c:Cell):Zbl c=some (optR (cellText c)):=by
 unfold Zbl
 rw[show Zda (c.1,c.2)=some (cellOk c) from i_CellOk c]
 exact cellText_f fun h1 h2=>i_Decode h1 h2
theorem same_f {a b:Cell}{F:Cell->Option (List UInt8×Bool)}(hF:∀c,F c=some (optR (cellText c))):(bnd (F (a.1,a.2)) (fun z1=>(bnd
 (F (b.1,b.2)) (fun z2=>(cnd z1.2 (cnd z2.2 (some (sEq z1.1 z2.1)) (some false)) (some false))))))=some (sameText a b):=by
 rw[hF,bnd_s,hF,bnd_s]
 unfold sameText
 cases h1:cellText a<;>cases h2:cellText b<;>rfl
theorem s_SameText (a b:Cell):Za (a,b)=some (sameText a b):=same_f s_CellText
theorem i_SameText (a b:Cell):Zgg (a,b)=some (sameText a b):=same_f i_CellText
abbrev Row:=List UInt8×Cell×Cell×Int×Bool
def smR (B:Nat) (r:Row):Prop:=r.1.length<=B/\r.2.1.2.length<=B/\r.2.2.1.2.length<=B
theorem szRow_ok {r:Row}{k:Int}(h0:0<=k) (hk:k<=1048576) (hl:smR 9223372036854775807 r):SzR (Zcg (r,k)) k (smR 1048576 r):=by
 obtain⟨a,b,c⟩:=hl
 have e:iSub .i64 k (lLen r.1)=k-r.1.length:=iSub_ok (by simp only[lLen_def];omega) (by simp only[lLen_def];omega)
 unfold Zcg
 refine (SzR.sub (P:=r.2.1.2.length<=1048576/\r.2.2.1.2.length<=1048576) h0 (by omega) a fun h=>?_).mono (Int.le_refl _) fun h=>⟨by have:=h.1;omega,h.2⟩
 simp only[e]
 refine SzR.seq (by omega) ((szCell_ok (c:=r.2.1) (by omega) (by omega) b).mono (Int.le_refl _) fun h=>by omega) fun z hz hz2=>?_
 exact SzR.one hz ((szCell_ok (c:=r.2.2.1) hz (by omega) c).mono (Int.le_refl _) fun h=>by omega)
theorem toRow_ok {r:Row}(h:smR 140737488355328 r):Zck r=some r:=by
 unfold Zck
 rw[toCell_ok (c:=(r.2.1.1,r.2.1.2)) h.2.1,bnd_s,toCell_ok (c:=(r.2.2.1.1,r.2.2.1.2)) h.2.2];rfl
theorem eqRow_ok {r:Row}(h:smR 9223372036854775806 r):Zdi (r,r)=some true:=by
 have e1:=eqCell_ok (c:=(r.2.1.1,r.2.1.2)) (Nat.lt_succ_of_le h.2.1)
 have e2:=eqCell_ok (c:=(r.2.2.1.1,r.2.2.1.2)) (Nat.lt_succ_of_le h.2.2)
 unfold Zdi
 simp only[iNe_r,cnd_f,sEq_r,bNot_t,e1,e2,bnd_s,bNe_r]
theorem smR.mono {A B:Nat}{r:Row}(h:smR A r) (hab:A<=B):smR B r:=⟨Nat.le_trans h.1 hab,Nat.le_trans h.2.1 hab,Nat.le_trans h.2.2 hab⟩
def noCell (c:Cell):Bool:=decide (c.1=0)&&c.2.isEmpty
def nameB (c:UInt8):Bool:=decide (97<=c.toNat/\c.toNat<=122)||decide (48<=c.toNat/\c.toNat<=57)
def nameOk (s:List UInt8):Bool:=s.all nameB&&decide (1<=s.length/\s.length<=6)
def rOldOk (o:Cell) (has:Int) (aside:Bool):Bool:=if has=2 then noCell o else decide (1<=o.1/\o.1<=5)&&decide (o.2.length<=20)&&((cellText o).isSome||(aside&&decide (has=1)))
def rNewOk (n:Cell) (has:Int):Bool:=if has=1 then noCell n else decide (n.1=0)&&(cellText n).isSome
def rowOk (r:Row):Bool:=nameOk r.1&&decide (1<=r.2.2.2.1/\r.2.2.2.1<=3)&&rOldOk r.2.1 r.2.2.2.1 r.2.2.2.2&&rNewOk r.2.2.1 r.2.2.2.1&&(decide (r.2.2.2.1≠3)||sameText r.2.1 r.2.2.1)
theorem noCell_eq {c:Cell}(h:noCell c=true):c=(0,[]):=by
 obtain⟨a,b⟩:=c
 simp only[noCell,Bool.and_eq_true,decide_eq_true_eq,List.isEmpty_iff]at h
 rw[h.1,h.2]
def wordB (n:Int):List UInt8:=[yN (n.toNat / 256),yN (n.toNat%256)]
def textB (s:List UInt8):List UInt8:=if s.length<=60 then wordB s.length++s else []
def cellB (c:Cell):List UInt8:=yN c.1.toNat::textB c.2
def flagN (b:Bool):Nat:=if b then 1 else 0
def rowB (r:Row):List UInt8:=textB r.1++(yN r.2.2.2.1.toNat::yN (flagN r.2.2.2.2)::((if r.2.2.2.1=2 then [] else cellB r.2.1)++(if r.2.2.2.1=1 then [] else cellB r.2.2.1)))
def pOne:List UInt8->Option (Int×List UInt8)
 | []=>none
 | x::l=>some ((x.toNat:Int),l)
def pWord:List UInt8->Option (Int×List UInt8)
 | x::y::l=>some (((x.toNat*256+y.toNat:Nat):Int),l)
 | _=>none
def pText (l:List UInt8):Option (List UInt8×List UInt8):=match pWord l with
 | none=>none
 | some (n,r)=>if n<=60/\n<=r.length then some (r.take n.toNat,r.drop n.toNat) else none
def pCell (l:List UInt8):Option (Cell×List UInt8):=match pOne l with
 | none=>none
 | some (t,r)=>match pText r with
  | none=>none
  | some (s,r)=>some ((t,s),r)
def pOld (has:Int) (l:List UInt8):Option (Cell×List UInt8):=if has.toNat%2=1 then pCell l else some ((0,[]),l)
def pNew (has:Int) (l:List UInt8):Option (Cell×List UInt8):=if has.toNat / 2%2=1 then pCell l else some ((0,[]),l)
def pRow0 (l:List UInt8):Option (Row×List UInt8):=match pText l with
 | none=>none
 | some (key,l)=>match pOne l with
  | none=>none
  | some (has,l)=>match pOne l with
   | none=>none
   | some (aside,l)=>if 1<aside then none else match pOld has l with
    | none=>none
    | some (old,l)=>match pNew has l with
     | none=>none
     | some (new,l)=>some ((key,old,new,has,decide (aside=1)),l)
def pRow (l:List UInt8):Option (Row×List UInt8):=match pRow0 l with
 | none=>none
 | some (r,l)=>if rowOk r then some (r,l) else none
theorem pWord_put {n:Int}(h0:0<=n) (h1:n<65536) (r:List UInt8):pWord (wordB n++r)=some (n,r):=by
 have e0:=yN_toNat (n:=n.toNat / 256) (by omega)
 have e1:=yN_toNat (n:=n.toNat%256) (by omega)
 simp only[wordB,List.cons_append,List.nil_append,pWord,e0,e1]
 congr 2;omega
theorem pText_put {s:List UInt8}(h:s.length<=60) (r:List UInt8):pText (textB s++r)=some (s,r):=by
 unfold textB pText
 rw[if_pos h,List.append_assoc,pWord_put (by omega) (by omega)]
 simp only
 rw[if_pos (by simp only[List.length_append];omega)]
 simp
theorem pCell_put {c:Cell}(h0:0<=c.1) (h1:c.1<256) (h:c.2.length<=60) (r:List UInt8):pCell (cellB c++r)=some (c,r):=by
 simp only[cellB,List.cons_append,pCell,pOne,pText_put h,yN_toNat (n:=c.1.toNat) (by omega)]
 rw[Int.toNat_of_nonneg h0]
theorem rowOk_has {r:Row}(h:rowOk r=true):nameOk r.1=true/\1<=r.2.2.2.1/\r.2.2.2.1<=3/\rOldOk r.2.1 r.2.2.2.1 r.2.2.2.2=true/\rNewOk r.2.2.1 r.2.2.2.1=true/\(r.2.2.2.1=3->sameText r.2.1 r.2.2.1=true):=by
 simp only[rowOk,Bool.and_eq_true,Bool.or_eq_true,decide_eq_true_eq]at h
 obtain⟨⟨⟨⟨a,b⟩,c⟩,d⟩,e⟩:=h
 exact⟨a,b.1,b.2,c,d,fun h3=>e.elim (fun k=>(k h3).elim) id⟩
theorem nameOk_len {s:List UInt8}(h:nameOk s=true):1<=s.length/\s.length<=6:=by
 simp only[nameOk,Bool.and_eq_true,decide_eq_true_eq]at h
 exact h.2
theorem rOldOk_some {o:Cell}{has:Int}{aside:Bool}(h:rOldOk o has aside=true) (h2:has≠2):1<=o.1/\o.1<=5/\o.2.length<=20/\((cellText o).isSome=true\/(aside=true/\has=1)):=by
 simp only[rOldOk,if_neg h2,Bool.and_eq_true,Bool.or_eq_true,decide_eq_true_eq]at h
 exact⟨h.1.1.1,h.1.1.2,h.1.2,h.2⟩
theorem rNewOk_some {n:Cell}{has:Int}(h:rNewOk n has=true) (h2:has≠1):n.1=0/\(cellText n).isSome=true/\n.2.length<=20:=by
 simp only[rNewOk,if_neg h2,Bool.and_eq_true,decide_eq_true_eq]at h
 refine⟨h.1,h.2, ?_⟩
 obtain⟨t,ht⟩:=Option.isSome_iff_exists.1 h.2
 have:=(cellText_ok ht).1
 simp only[cellOk,Bool.and_eq_true,decide_eq_true_eq]at this
 exact this.2
theorem pRow_put {r:Row}(h:rowOk r=true) (l:List UInt8):pRow (rowB r++l)=some (r,l):=by
 obtain⟨a,b1,b2,c,d,e⟩:=rowOk_has h
 have hk:=nameOk_len a
 obtain⟨key,old,new,has,aside⟩:=r
 simp only at a b1 b2 c d e hk
 have key1:pRow0 (rowB (key,old,new,has,aside)++l)=some ((key,old,new,has,aside),l):=by
  unfold rowB pRow0
  simp only[List.append_assoc,List.cons_append]
  rw[pText_put (by omega)]
  simp only[pOne,yN_toNat (n:=has.toNat) (by omega),yN_toNat (n:=flagN aside) (by unfold flagN;split<;>omega),Int.toNat_of_nonneg (show 0<=has by omega)]
  rw[if_neg (by unfold flagN;split<;>omega)]
  have ea:decide (((flagN aside:Nat):Int)=1)=aside:=by cases aside<;>rfl
  have eo:pOld has ((if has=2 then [] else cellB old)++((if has=1 then [] else cellB new)++l))=some (old,(if has=1 then [] else cellB new)++l):=by
   unfold pOld
   by_cases h2:has=2
   ·subst h2
    have hn:noCell old=true:=by simpa [rOldOk] using c
    rw[if_neg (by decide),if_pos rfl,noCell_eq hn];rfl
   ·obtain⟨o1,o2,o3,_⟩:=rOldOk_some c h2
    rw[if_pos (by omega),if_neg h2,pCell_put (by omega) (by omega) (by omega)]
  have en:pNew has ((if has=1 then [] else cellB new)++l)=some (new,l):=by
   unfold pNew
   by_cases h2:has=1
   ·subst h2
    have hn:noCell new=true:=by simpa [rNewOk] using d
    rw[if_neg (by decide),if_pos rfl,noCell_eq hn];rfl
   ·obtain⟨n1,n2,n3⟩:=rNewOk_some d h2
    rw[if_pos (by omega),if_neg h2,pCell_put (by omega) (by omega) (by omega)]
  rw[eo]
  simp only[en,ea]
 unfold pRow
 rw[key1]
 simp only[h,if_true]
theorem s_NameOk {s : List UInt8} (hl : s.length < 9223372036854775807) : Zbw s = some (nameOk s) := by
  unfold Zbw
  have stp : ∀ i (h : i < s.length), Zei s (i : Int) = if nameB s[i] then some (.inl ((i + 1 : Nat) : Int)) else some (.inr (.inr false)) := by
    intro i h
    unfold Zei
    rw [iLt_y (by rw [lLen_def]; omega), cnd_t, idx_at h]
    simp only [bnd_s, conv64, s_In, iAdd_1 (show i < 9223372036854775807 by omega)]
    unfold nameB
    by_cases h1 : 97 ≤ s[i].toNat ∧ s[i].toNat ≤ 122
    · rw [decide_eq_true (show (97 : Int) ≤ (s[i].toNat : Int) ∧ (s[i].toNat : Int) ≤ 122 by omega), decide_eq_true h1]; rfl
    · rw [decide_eq_false (show ¬ ((97 : Int) ≤ (s[i].toNat : Int) ∧ (s[i].toNat : Int) ≤ 122) by omega), decide_eq_false h1]
      by_cases h2 : 48 ≤ s[i].toNat ∧ s[i].toNat ≤ 57
      · rw [decide_eq_true (show (48 : Int) ≤ (s[i].toNat : Int) ∧ (s[i].toNat : Int) ≤ 57 by omega), decide_eq_true h2]; rfl
      · rw [decide_eq_false (show ¬ ((48 : Int) ≤ (s[i].toNat : Int) ∧ (s[i].toNat : Int) ≤ 57) by omega), decide_eq_false h2]; rfl
  obtain ⟨r, h1, h2⟩ := loop_inv (step := Zei s) (fun i z => z = (i : Int) ∧ i ≤ s.length ∧ s.all nameB = (s.drop i).all nameB) s.length
    (fun r => joinX (some r) (fun (z1 : Unit) => (bnd (Zb ((lLen s), (1, 6))) (fun z2 => (some z2)))) = some (nameOk s)) (by
      rintro i z hi ⟨rfl, _, hp⟩
      rw [stp i hi]
      rw [List.drop_eq_getElem_cons hi, List.all_cons] at hp
      cases hb : nameB s[i] with
      | true =>
        left
        rw [hb, Bool.true_and] at hp
        exact ⟨_, by rw [if_pos rfl], rfl, hi, hp⟩
      | false =>
        right
        rw [hb, Bool.false_and] at hp
        exact ⟨_, by rw [if_neg (by decide)], by rw [joinX_r, nameOk, hp]; rfl⟩)
    (by
      rintro z ⟨rfl, _, hp⟩
      refine ⟨.inl (), ?_, ?_⟩
      · unfold Zei
        rw [iLt_n (by rw [lLen_def]; exact Int.le_refl _), cnd_f]
      · rw [joinX_l, s_In, bnd_s, nameOk, hp, List.drop_length]
        simp only [List.all_nil, Bool.true_and, lLen_def]
        exact congrArg some (decide_eq_decide.2 (by omega))) 0 ⟨rfl, Nat.zero_le _, by rw [List.drop_zero]⟩
  rw [h1, h2]
theorem i_NameOk {s:List UInt8}(hl:s.length<9223372036854775807):Zcz s=some (nameOk s):=s_NameOk hl
theorem s_l9None (c:Cell):Zbd c=some (noCell c):=by
 obtain⟨t,b⟩:=c
 unfold Zbd noCell
 simp only[iEq,lLen_def]
 by_cases h:t=0
 ·subst h
  rw[show ((0:Int)==0)=true from rfl,cnd_t,decide_eq_true rfl,Bool.true_and]
  cases b with
  | nil=>rfl
  | cons x l =>
   have:(((x::l).length:Int)==0)=false:=by simp;omega
   rw[this];rfl
 ·have:(t==0)=false:=by simpa using h
  rw[this,cnd_f,decide_eq_false h];rfl
theorem i_sameZero (c:Cell):Zm ((c.1,c.2),(0,[]))=some (noCell c):=by
 obtain⟨t,b⟩:=c
 unfold Zm noCell
 simp only[iEq,sEq]
 by_cases h:t=0
 ·subst h
  rw[show ((0:Int)==0)=true from rfl,cnd_t,decide_eq_true rfl,Bool.true_and]
  cases b<;>rfl
 ·have:(t==0)=false:=by simpa using h
  rw[this,cnd_f,decide_eq_false h];rfl
theorem optR_2 (o:Option (List UInt8)):(optR o).2=o.isSome:=by cases o<;>rfl
theorem cellOk_old {o:Cell}(h:1<=o.1/\o.1<=5):cellOk o=decide (o.2.length<=20):=by
 unfold cellOk
 rw[decide_eq_true (show 0<=o.1/\o.1<=5 by omega),Bool.true_and]
theorem s_RowOk {r:Row}(hl:r.1.length<9223372036854775807):Zv r=some (rowOk r):=by
 obtain⟨key,⟨ot,ob⟩,⟨nt,nb⟩,has,aside⟩:=r
 have n1:Zbw key=some (nameOk key):=s_NameOk hl
 have n2:=s_CellText (ot,ob)
 have n3:=s_CellText (nt,nb)
 have n4:=s_l9None (ot,ob)
 have n5:=s_l9None (nt,nb)
 have n6:=s_SameText (ot,ob) (nt,nb)
 have n7:=s_CellOk (ot,ob)
 have nI:Zb (has,(1,3))=some (decide (1<=has/\has<=3)):=s_In _ _ _
 have nT:Zb (ot,(1,5))=some (decide (1<=ot/\ot<=5)):=s_In _ _ _
 unfold Zv rowOk
 dsimp only
 rw[n1,bnd_s]
 cases hn:nameOk key with
 | false=>rfl
 | true =>
 rw[bNot_t,cnd_f,nI,bnd_s]
 by_cases hh:1<=has/\has<=3
 case neg=>rw[decide_eq_false hh];rfl
 rw[decide_eq_true hh,bNot_t,cnd_f]
 rcases (show has=1\/has=2\/has=3 by omega) with rfl|rfl|rfl
 ·have o1:Ze (key,(ot,ob),(nt,nb),1,aside)=some true:=congrArg some (show iEq (iAnd .i64 1 1) 1=true by decide +kernel)
  have o2:Zc (key,(ot,ob),(nt,nb),1,aside)=some false:=congrArg some (show iEq (iAnd .i64 1 2) 2=false by decide +kernel)
  simp only[o1,o2,n2,n3,n4,n5,n6,n7,nT,bnd_s,bNot_t,bNot_f,cnd_t,cnd_f,optR_2]
  rw[show iNe 1 3=true from rfl,cnd_t]
  unfold rOldOk rNewOk
  rw[if_neg (by decide),if_pos rfl]
  by_cases hT:1<=ot/\ot<=5
  ·rw[cellOk_old (o:=(ot,ob)) hT]
   generalize noCell (nt,nb)=b1
   generalize decide (ob.length<=20)=b2
   generalize (cellText (ot,ob)).isSome=b3
   simp only[decide_eq_true hT]
   cases b1<;>cases b2<;>cases b3<;>cases aside<;>rfl
  ·simp only[decide_eq_false hT]
   generalize noCell (nt,nb)=b1
   cases b1<;>rfl
 ·have o1:Ze (key,(ot,ob),(nt,nb),2,aside)=some false:=congrArg some (show iEq (iAnd .i64 2 1) 1=false by decide +kernel)
  have o2:Zc (key,(ot,ob),(nt,nb),2,aside)=some true:=congrArg some (show iEq (iAnd .i64 2 2) 2=true by decide +kernel)
  simp only[o1,o2,n2,n3,n4,n5,n6,n7,nT,bnd_s,bNot_t,bNot_f,cnd_t,cnd_f,optR_2]
  rw[show iNe 2 3=true from rfl,cnd_t]
  unfold rOldOk rNewOk
  rw[if_pos rfl,if_neg (by decide)]
  have e0:iNe nt 0=!decide (nt=0):=by
   by_cases h:nt=0
   ·subst h;rfl
   ·rw[iNe_y h,decide_eq_false h];rfl
  rw[e0]
  generalize noCell (ot,ob)=b1
  generalize decide (nt=0)=b2
  generalize (cellText (nt,nb)).isSome=b3
  cases b1<;>cases b2<;>cases b3<;>rfl
 ·have o1:Ze (key,(ot,ob),(nt,nb),3,aside)=some true:=congrArg some (show iEq (iAnd .i64 3 1) 1=true by decide +kernel)
  have o2:Zc (key,(ot,ob),(nt,nb),3,aside)=some true:=congrArg some (show iEq (iAnd .i64 3 2) 2=true by decide +kernel)
  simp only[o1,o2,n2,n3,n4,n5,n6,n7,nT,bnd_s,bNot_t,bNot_f,cnd_t,cnd_f,optR_2]
  rw[show iNe 3 3=false from rfl]
  simp only[cnd_f]
  unfold rOldOk rNewOk
  rw[if_neg (by decide),if_neg (by decide)]
  have e0:iNe nt 0=!decide (nt=0):=by
   by_cases h:nt=0
   ·subst h;rfl
   ·rw[iNe_y h,decide_eq_false h];rfl
  rw[e0]
  by_cases hT:1<=ot/\ot<=5
  ·rw[cellOk_old (o:=(ot,ob)) hT]
   simp only[decide_eq_true hT]
   generalize decide (nt=0)=b1
   generalize decide (ob.length<=20)=b2
   generalize (cellText (ot,ob)).isSome=b3
   generalize (cellText (nt,nb)).isSome=b4
   generalize sameText (ot,ob) (nt,nb)=b5
   cases b1<;>cases b2<;>cases b3<;>cases b4<;>cases b5<;>cases aside<;>rfl
  ·simp only[decide_eq_false hT]
   generalize decide (nt=0)=b1
   generalize (cellText (nt,nb)).isSome=b4
   cases b1<;>cases b4<;>rfl
theorem i_RowOk {r:Row}(hl:r.1.length<9223372036854775807):Zba r=some (rowOk r):=by
 obtain⟨key,⟨ot,ob⟩,⟨nt,nb⟩,has,aside⟩:=r
 have n1:Zcz key=some (nameOk key):=i_NameOk hl
 have n2:=i_CellText (ot,ob)
 have n3:=i_CellText (nt,nb)
 have n4:Zm ((ot,ob),(0,[]))=some (noCell (ot,ob)):=i_sameZero (ot,ob)
 have n5:Zm ((nt,nb),(0,[]))=some (noCell (nt,nb)):=i_sameZero (nt,nb)
 have n6:=i_SameText (ot,ob) (nt,nb)
 have n7:=i_CellOk (ot,ob)
 have nI:Zd (has,(1,3))=some (decide (1<=has/\has<=3)):=i_In _ _ _
 unfold Zba rowOk
 dsimp only
 rw[n1,bnd_s]
 cases hn:nameOk key with
 | false=>rfl
 | true =>
 rw[bNot_t,cnd_f,nI,bnd_s]
 by_cases hh:1<=has/\has<=3
 case neg=>rw[decide_eq_false hh];rfl
 rw[decide_eq_true hh,bNot_t,cnd_f]
 simp only[n2,n3,n4,n5,n6,n7,bnd_s,optR_2]
 have e0:iEq nt 0=decide (nt=0):=by
  by_cases h:nt=0
  ·subst h;rfl
  ·rw[iEq_n h,decide_eq_false h]
 have eC:cnd (cellOk (ot,ob)) (cnd (iNe ot 0) (cnd (cellText (ot,ob)).isSome (some (Sum.inl (β:=Bool) true)) (cnd aside (some (.inl (iEq has 1))) (some (.inl false)))) (some (.inl false))) (some (.inl false))=some (.inl (decide (1<=ot/\ot<=5)&&decide (ob.length<=20)&&((cellText (ot,ob)).isSome||(aside&&iEq has 1)))):=by
  by_cases hT:1<=ot/\ot<=5
  ·rw[cellOk_old (o:=(ot,ob)) hT,decide_eq_true hT,iNe_y (by omega)]
   generalize decide (ob.length<=20)=b2
   generalize (cellText (ot,ob)).isSome=b3
   generalize iEq has 1=b4
   cases b2<;>cases b3<;>cases b4<;>cases aside<;>rfl
  ·rw[decide_eq_false hT]
   by_cases h0:ot=0
   ·subst h0
    rw[show iNe 0 0=false from rfl]
    cases cellOk (0,ob)<;>rfl
   ·have:cellOk (ot,ob)=false:=by
     unfold cellOk
     rw[decide_eq_false (by simp only;omega)];rfl
    rw[this];rfl
 rw[eC,e0]
 rcases (show has=1\/has=2\/has=3 by omega) with rfl|rfl|rfl
 ·unfold rOldOk rNewOk
  rw[if_neg (by decide),if_pos rfl,show iNe 1 2=true from rfl,show iNe 1 1=false from rfl,show iNe 1 3=true from rfl,show iEq 1 1=true from rfl]
  generalize (decide (1<=ot/\ot<=5))=b0
  generalize noCell (nt,nb)=b1
  generalize decide (ob.length<=20)=b2
  generalize (cellText (ot,ob)).isSome=b3
  cases b0<;>cases b1<;>cases b2<;>cases b3<;>cases aside<;>rfl
 ·unfold rOldOk rNewOk
  rw[if_pos rfl,if_neg (by decide),show iNe 2 2=false from rfl,show iNe 2 1=true from rfl,show iNe 2 3=true from rfl]
  generalize noCell (ot,ob)=b1
  generalize decide (nt=0)=b2
  generalize (cellText (nt,nb)).isSome=b3
  cases b1<;>cases b2<;>cases b3<;>rfl
 ·unfold rOldOk rNewOk
  rw[if_neg (by decide),if_neg (by decide),show iNe 3 2=true from rfl,show iNe 3 1=true from rfl,show iNe 3 3=false from rfl,show iEq 3 1=false from rfl]
  generalize (decide (1<=ot/\ot<=5))=b0
  generalize decide (nt=0)=b1
  generalize decide (ob.length<=20)=b2
  generalize (cellText (ot,ob)).isSome=b3
  generalize (cellText (nt,nb)).isSome=b4
  generalize sameText (ot,ob) (nt,nb)=b5
  cases b0<;>cases b1<;>cases b2<;>cases b3<;>cases b4<;>cases b5<;>cases aside<;>rfl
theorem iEq_d (a b:Int):iEq a b=decide (a=b):=by simp only[iEq];rfl
theorem s_l9New (r:Row) (h:rowOk r=true):Zc r=some (decide (r.2.2.2.1≠1)):=by
 obtain⟨_,h1,h3,_⟩:=rowOk_has h
 unfold Zc
 rcases (show r.2.2.2.1=1\/r.2.2.2.1=2\/r.2.2.2.1=3 by omega) with e|e|e<;>rw[e]
 ·exact congrArg some (show iEq (iAnd .i64 1 2) 2=false by decide +kernel)
 ·exact congrArg some (show iEq (iAnd .i64 2 2) 2=true by decide +kernel)
 ·exact congrArg some (show iEq (iAnd .i64 3 2) 2=true by decide +kernel)
theorem s_l9Old (r:Row) (h:rowOk r=true):Ze r=some (decide (r.2.2.2.1≠2)):=by
 obtain⟨_,h1,h3,_⟩:=rowOk_has h
 unfold Ze
 rcases (show r.2.2.2.1=1\/r.2.2.2.1=2\/r.2.2.2.1=3 by omega) with e|e|e<;>rw[e]
 ·exact congrArg some (show iEq (iAnd .i64 1 1) 1=true by decide +kernel)
 ·exact congrArg some (show iEq (iAnd .i64 2 1) 1=false by decide +kernel)
 ·exact congrArg some (show iEq (iAnd .i64 3 1) 1=true by decide +kernel)
theorem i64_word {n:Nat}(h:n<65536):u8 (iConv .u8 (iShr .i64 (n:Int) 8))=yN (n / 256)/\u8 (iConv .u8 (n:Int))=yN (n%256):=by
 have e:iShr .i64 (n:Int) (8:Nat)=_:=shr64 (n:=n) (s:=8) (by omega)
 refine⟨?_, ?_⟩
 ·rw[show iShr .i64 (n:Int) 8=((n / 2^8:Nat):Int) from e,conv_u8]
 ·rw[conv_u8];exact UInt8.toNat_inj.1 (by simp [yN])
theorem s_PutW {l:List UInt8}{n:Int}(hl:l.length<=1099511627776) (h0:0<=n) (h1:n<65536):Zf (l,n)=some (l++wordB n):=by
 obtain⟨k,rfl⟩:=Int.eq_ofNat_of_zero_le h0
 obtain⟨e1,e2⟩:=i64_word (n:=k) (by omega)
 unfold Zf
 simp only[e1,e2]
 rw[room_ok (by omega),chk_t,room_ok (by simp only[lApp,List.nil_append];omega),chk_t]
 rfl
theorem i_PutW {l:List UInt8}{n:Int}(hl:l.length<=1099511627776) (h0:0<=n) (h1:n<65536):Zg (l,n)=some (l++wordB n):=by
 obtain⟨k,rfl⟩:=Int.eq_ofNat_of_zero_le h0
 have e:iShr .i64 (k:Int) 8=((k / 2^8:Nat):Int):=shr64 (n:=k) (s:=8) (by omega)
 have a1:iAnd .i64 ((k / 2^8:Nat):Int) 255=((k / 2^8%256:Nat):Int):=by
  rw[show (255:Int)=((255:Nat):Int) from rfl,iAnd_s (k:=.i64) (by show _<2^63;omega) (by show _<2^63;omega),and_mask (j:=8) rfl]
 have a2:iAnd .i64 (k:Int) 255=((k%256:Nat):Int):=by
  rw[show (255:Int)=((255:Nat):Int) from rfl,iAnd_s (k:=.i64) (by show _<2^63;omega) (by show _<2^63;omega),and_mask (j:=8) rfl]
 unfold Zg
 simp only[e,a1,a2,conv_u8]
 rw[joined2_ok (by simp only[List.length_cons,List.length_nil];omega),bnd_s]
 rw[show k / 2^8%256=k / 256 by omega]
 rfl
theorem textB_len (s:List UInt8):(textB s).length<=62:=by
 unfold textB;split<;>simp [wordB]<;>omega
theorem lLen_60 {s:List UInt8}(h:¬s.length<=60):iGt (lLen s) 60=true:=iGt_y (by simp only[lLen_def];omega)
theorem s_PutText {l s:List UInt8}(hl:l.length<=1048576000) (hs:s.length<=1048576000):Zq (l,s)=some (l++textB s):=by
 unfold Zq textB
 simp only
 by_cases h:s.length<=60
 ·rw[iGt_n (by simp only[lLen_def];omega),cnd_f,if_pos h,lLen_def,s_PutW (by omega) (by omega) (by omega),bnd_s]
  rw[room_ok (by simp only[List.length_append,wordB,List.length_cons,List.length_nil];omega),chk_t]
  simp only[lApp,List.append_assoc]
 ·rw[lLen_60 h,cnd_t,if_neg h,room_ok (by omega),chk_t,List.append_nil];rfl
theorem i_PutText {l s:List UInt8}(hl:l.length<=1048576000) (hs:s.length<=1048576000):Zn (l,s)=some (l++textB s):=by
 unfold Zn textB
 simp only
 by_cases h:s.length<=60
 ·rw[iGt_n (by simp only[lLen_def];omega),cnd_f,if_pos h,lLen_def,i_PutW (by omega) (by omega) (by omega),bnd_s]
  rw[joined2_ok (by simp only[List.length_append,wordB,List.length_cons,List.length_nil];omega),bnd_s,List.append_assoc]
 ·rw[lLen_60 h,cnd_t,if_neg h,joined1_ok (by omega),bnd_s,List.append_nil]
theorem cellB_len (c:Cell):(cellB c).length<=63:=by
 have:=textB_len c.2
 unfold cellB;simp only[List.length_cons];omega
theorem conv_has {t:Int}(h0:0<=t):u8 (iConv .u8 t)=yN t.toNat:=by
 obtain⟨k,rfl⟩:=Int.eq_ofNat_of_zero_le h0
 rw[conv_u8];rfl
def putRow (l:List UInt8) (r:Row):List UInt8:=if rowOk r=true then l++rowB r else l
theorem rowB_len (r:Row):(rowB r).length<=190:=by
 have h1:=textB_len r.1
 have h2:=cellB_len r.2.1
 have h3:=cellB_len r.2.2.1
 unfold rowB
 simp only[List.length_append,List.length_cons]
 split<;>split<;>first|omega|(simp only[List.length_nil];omega)
theorem s_l11Cell {l:List UInt8}{c:Cell}(hl:l.length<=104857600) (hs:c.2.length<=1048576000) (h0:0<=c.1):Zcb (l,(c.1,c.2))=some (l++cellB c):=by
 unfold Zcb
 simp only[conv_has h0]
 rw[room_ok (by omega),chk_t,s_PutText (by simp only[lApp,List.length_append,List.length_cons,List.length_nil];omega) hs,bnd_s]
 simp only[lApp,List.append_assoc,cellB,List.cons_append,List.nil_append]
theorem flag_s (b:Bool):Zfw b=some (yN (flagN b)):=by cases b<;>rfl
theorem flag_i (b:Bool):Zgj b=some (yN (flagN b)):=by cases b<;>rfl
theorem rowOk_old {r:Row}(h:rowOk r=true) (h2:r.2.2.2.1≠2):0<=r.2.1.1:=by
 obtain⟨_,a,b,c,d⟩:=rowOk_has h
 have:=rOldOk_some c h2;omega
theorem rowOk_new {r:Row}(h:rowOk r=true) (h2:r.2.2.2.1≠1):0<=r.2.2.1.1:=by
 have d:=(rowOk_has h).2.2.2.2
 have:=rNewOk_some d.1 h2;omega
theorem s_PutRow {l:List UInt8}{r:Row}(hl:l.length<=1048576) (hr:smR 1048576 r):Zbf (l,r)=some (putRow l r):=by
 obtain⟨key,⟨ot,ob⟩,⟨nt,nb⟩,has,aside⟩:=r
 obtain⟨k1,k2,k3⟩:=hr
 simp only at k1 k2 k3
 have e0:Zv (key,((ot,ob),((nt,nb),(has,aside))))=some (rowOk (key,((ot,ob),((nt,nb),(has,aside))))):=s_RowOk (by simp only;omega)
 unfold Zbf putRow
 simp only[e0,bnd_s,flag_s]
 rw[room_ok (by omega),chk_t]
 cases hk:rowOk (key,((ot,ob),((nt,nb),(has,aside)))) with
 | false=>rw[bNot_f,cnd_t];rfl
 | true =>
 have b1:=rowOk_has hk
 have eo:Ze (key,((ot,ob),((nt,nb),(has,aside))))=some (decide (has≠2)):=s_l9Old _ hk
 have en:Zc (key,((ot,ob),((nt,nb),(has,aside))))=some (decide (has≠1)):=s_l9New _ hk
 have t1:=textB_len key
 have t2:=cellB_len (ot,ob)
 have o0:=rowOk_old hk
 have n0:=rowOk_new hk
 simp only at b1 o0 n0
 rw[bNot_t,cnd_f,show lApp [] l=l from rfl,s_PutText (by omega) (by omega),bnd_s,room_ok (by simp only[List.length_append];omega),chk_t]
 simp only[eo,en,bnd_s,conv_has (show 0<=has by omega),if_true,rowB,lApp]
 have step:∀(q:List UInt8) (c:Cell) (k:Int),q.length<=2097152->c.2.length<=1048576->(has≠k->0<=c.1)->cnd (decide (has≠k)) (bnd (Zcb (q,(c.1,c.2))) (fun z5=>(some (.inl z5)))) (some (.inl q))=some (.inl (q++if has=k then [] else cellB c):List UInt8 ⊕ List UInt8):=by
  intro q c k hq hc h0
  by_cases h:has=k
  ·rw[if_pos h,decide_eq_false (by simpa using h),cnd_f,List.append_nil]
  ·rw[if_neg h,decide_eq_true h,cnd_t,s_l11Cell (by omega) (by omega) (h0 h)];rfl
 rw[step _ (ot,ob) 2 (by simp only[List.length_append,List.length_cons,List.length_nil];omega) k2 o0,joinX_l]
 have t3:(if has=2 then [] else cellB (ot,ob)).length<=63:=by split<;>first|omega|(simp only[List.length_nil];omega)
 rw[step _ (nt,nb) 1 (by simp only[List.length_append,List.length_cons,List.length_nil];omega) k3 n0,joinX_l]
 simp only[List.append_assoc,List.cons_append,List.nil_append]
theorem i_PutRow {l:List UInt8}{r:Row}(hl:l.length<=1048576) (hr:smR 1048576 r):Zbn (l,r)=some (putRow l r):=by
 obtain⟨key,⟨ot,ob⟩,⟨nt,nb⟩,has,aside⟩:=r
 obtain⟨k1,k2,k3⟩:=hr
 simp only at k1 k2 k3
 have e0:Zba (key,((ot,ob),((nt,nb),(has,aside))))=some (rowOk (key,((ot,ob),((nt,nb),(has,aside))))):=i_RowOk (by simp only;omega)
 unfold Zbn putRow
 simp only[joined1_ok (show l.length<=140737488355328 by omega),e0,bnd_s,flag_i]
 cases hk:rowOk (key,((ot,ob),((nt,nb),(has,aside)))) with
 | false=>rw[bNot_f,cnd_t];rfl
 | true =>
 have b1:=rowOk_has hk
 have t1:=textB_len key
 have t2:=cellB_len (ot,ob)
 have o0:=rowOk_old hk
 have n0:=rowOk_new hk
 simp only at b1 o0 n0
 rw[bNot_t,cnd_f,i_PutText (by omega) (by omega),bnd_s,room_ok (by simp only[List.length_append];omega),chk_t]
 simp only[bnd_s,conv_has (show 0<=has by omega),if_true,rowB,lApp]
 have step:∀(q:List UInt8) (c:Cell) (k:Int),q.length<=2097152->c.2.length<=1048576->(has≠k->0<=c.1)->cnd (iNe has k) (chk (room (q.length+1) 1) (bnd (Zn (q++[u8 (iConv .u8 c.1)],c.2)) (fun z5=>(some (.inl z5))))) (some (.inl q))=some (.inl (q++if has=k then [] else cellB c):List UInt8 ⊕ List UInt8):=by
  intro q c k hq hc h0
  by_cases h:has=k
  ·rw[if_pos h,h,iNe_r,cnd_f,List.append_nil]
  ·rw[if_neg h,iNe_y h,cnd_t,room_ok (by omega),chk_t,i_PutText (by simp only[List.length_append,List.length_cons,List.length_nil];omega) (by omega),conv_has (h0 h)]
   simp only[bnd_s,cellB,List.append_assoc,List.cons_append,List.nil_append]
 rw[step _ (ot,ob) 2 (by simp only[List.length_append,List.length_cons,List.length_nil];omega) k2 o0,joinX_l]
 have t3:(if has=2 then [] else cellB (ot,ob)).length<=63:=by split<;>first|omega|(simp only[List.length_nil];omega)
 rw[step _ (nt,nb) 1 (by simp only[List.length_append,List.length_cons,List.length_nil];omega) k3 n0,joinX_l]
 simp only[List.append_assoc,List.cons_append,List.nil_append]
theorem sCopyRow_ok {r:Row}(h:smR 1048576 r):Zp r=some r:=by
 have e:∀c:Cell,c.2.length<=1048576->Zcn c=some c:=fun c h=>by
  unfold Zcn;rw[room_ok (by omega)];rfl
 unfold Zp
 rw[e (r.2.1.1,r.2.1.2) h.2.1,bnd_s,e (r.2.2.1.1,r.2.2.1.2) h.2.2];rfl
theorem iCopyRow_ok {r:Row}(h:smR 1048576 r):Zt r=some r:=by
 have e:∀c:Cell,c.2.length<=1048576->Zcx c=some c:=fun c h=>by
  unfold Zcx;rw[joined1_ok (by omega)];rfl
 unfold Zt
 rw[e (r.2.1.1,r.2.1.2) h.2.1,bnd_s,e (r.2.2.1.1,r.2.2.1.2) h.2.2];rfl
end
end Go.Vs
