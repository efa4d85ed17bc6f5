import Derived.Test.YtggfmlobpmndoaaGreatDoorVsW5
import Derived.Test.YtggfmlobpmndoaaGreatDoorVsQgb
set_option linter.all false
namespace Go.Vs
noncomputable section
abbrev Rec:=Int×Row×List UInt8×Int×Int×Int×Int
def noRow (r:Row):Bool:=r.1.isEmpty && noCell r.2.1 && noCell r.2.2.1 && decide (r.2.2.2.1=0) && !r.2.2.2.2
theorem noRow_eq {r:Row}(h:noRow r=true):r=([],(0,[]),(0,[]),0,false):=by
 obtain⟨k,o,n,z,a⟩:=r
 simp only[noRow,Bool.and_eq_true,decide_eq_true_eq,List.isEmpty_iff,Bool.not_eq_true'] at h
 obtain⟨⟨⟨⟨h1,h2⟩,h3⟩,h4⟩,h5⟩:=h
 rw[h1,noCell_eq h2,noCell_eq h3,h4,h5]
def bodyOk (k:Int) (R:Row) (key:List UInt8) (n:Int):Bool :=
 if k=1 then rowOk R && key.isEmpty && decide (n=0)
 else if k=2 then noRow R && nameOk key && decide (n=0)
 else if k=3 then noRow R && key.isEmpty && decide (0<=n/\n<=7)
 else if k=4 then noRow R && key.isEmpty && decide (n=0)
 else false
def whoOk (k who seq code:Int):Bool:=if who=0 then decide (seq=0/\code=0/\k≠4) else decide (1<=who/\who<=9/\0<=seq/\seq<=65535/\0<=code/\code<=6)
def recOk (r:Rec):Bool:=bodyOk r.1 r.2.1 r.2.2.1 r.2.2.2.1 && whoOk r.1 r.2.2.2.2.1 r.2.2.2.2.2.1 r.2.2.2.2.2.2
def bodyB (k:Int) (R:Row) (key:List UInt8) (n:Int):List UInt8:=if k=1 then rowB R else if k=2 then textB key else if k=3 then [yN n.toNat] else []
def recB (gen place:Int) (r:Rec):List UInt8:=wordB gen++(wordB place++(yN r.1.toNat::(bodyB r.1 r.2.1 r.2.2.1 r.2.2.2.1++(yN r.2.2.2.2.1.toNat::yN r.2.2.2.2.2.2.toNat::wordB r.2.2.2.2.2.1))))
def sumB (b:List UInt8):List UInt8:=b++wordB (crc b)
def putRec (gen place:Int) (r:Rec):List UInt8:=if recOk r=true/\0<=gen/\gen<=65535/\0<=place/\place<=65535 then sumB (recB gen place r) else []
def pBody (k:Int) (l:List UInt8):Option ((Row×List UInt8×Int)×List UInt8) :=
 if k=1 then (match pRow l with
  | none=>none
  | some (r,l)=>some ((r,[],0),l))
 else if k=2 then (match pText l with
  | none=>none
  | some (s,l)=>some ((([],(0,[]),(0,[]),0,false),s,0),l))
 else if k=3 then (match pOne l with
  | none=>none
  | some (n,l)=>some ((([],(0,[]),(0,[]),0,false),[],n),l))
 else some ((([],(0,[]),(0,[]),0,false),[],0),l)
def pRec (l:List UInt8):Option ((Int×Int×Rec)×List UInt8):=match pWord l with
 | none=>none
 | some (gen,l)=>match pWord l with
  | none=>none
  | some (place,l)=>match pOne l with
   | none=>none
   | some (k,l)=>match pBody k l with
    | none=>none
    | some ((R,key,n),l)=>match pOne l with
     | none=>none
     | some (who,l)=>match pOne l with
      | none=>none
      | some (code,l)=>match pWord l with
       | none=>none
       | some (seq,l)=>some ((gen,place,(k,R,key,n,who,seq,code)),l)
def getRec (b:List UInt8):Option (Int×Int×Rec):=match pRec b with
 | none=>none
 | some (x,l)=>if l=wordB (crc (b.take (b.length - 2)))/\l.length=2/\recOk x.2.2=true then some x else none
theorem wordB_len (n:Int):(wordB n).length=2:=rfl
theorem pBody_put {k:Int}{R:Row}{key:List UInt8}{n:Int}(h:bodyOk k R key n=true) (l:List UInt8):pBody k (bodyB k R key n++l)=some ((R,key,n),l)/\1<=k/\k<=4:=by
 unfold bodyOk at h
 unfold pBody bodyB
 split at h
 ·rename_i hk
  simp only[Bool.and_eq_true,decide_eq_true_eq,List.isEmpty_iff] at h
  obtain⟨⟨h1,rfl⟩,rfl⟩:=h
  rw[if_pos hk,if_pos hk,pRow_put h1]
  exact⟨rfl,by omega,by omega⟩
 split at h
 ·rename_i h1 hk
  simp only[Bool.and_eq_true,decide_eq_true_eq] at h
  obtain⟨⟨h2,h3⟩,rfl⟩:=h
  rw[if_neg h1,if_pos hk,if_neg h1,if_pos hk,pText_put (by have:=nameOk_len h3;omega),noRow_eq h2]
  exact⟨rfl,by omega,by omega⟩
 split at h
 ·rename_i h1 h2 hk
  simp only[Bool.and_eq_true,decide_eq_true_eq,List.isEmpty_iff] at h
  obtain⟨⟨h3,rfl⟩,h4⟩:=h
  rw[if_neg h1,if_neg h2,if_pos hk,if_neg h1,if_neg h2,if_pos hk,noRow_eq h3]
  simp only[List.cons_append,List.nil_append,pOne,yN_toNat (n:=n.toNat) (by omega),Int.toNat_of_nonneg h4.1]
  exact⟨trivial,by omega,by omega⟩
 split at h
 ·rename_i h1 h2 h3 hk
  simp only[Bool.and_eq_true,decide_eq_true_eq,List.isEmpty_iff] at h
  obtain⟨⟨h4,rfl⟩,rfl⟩:=h
  rw[if_neg h1,if_neg h2,if_neg h3,if_neg h1,if_neg h2,if_neg h3,noRow_eq h4]
  exact⟨rfl,by omega,by omega⟩
 ·cases h
theorem bodyB_of {k:Int}{x:Row×List UInt8×Int}{l q:List UInt8}(h:pBody k l=some (x,q)):l=bodyB k x.1 x.2.1 x.2.2++q:=by
 unfold pBody at h
 unfold bodyB
 split at h
 ·rename_i hk
  rw[if_pos hk]
  split at h
  ·cases h
  ·rename_i r l2 h2
   simp only[Option.some.injEq,Prod.mk.injEq] at h
   obtain⟨rfl,rfl⟩:=h
   exact (rowB_of h2).1
 split at h
 ·rename_i h1 hk
  rw[if_neg h1,if_pos hk]
  split at h
  ·cases h
  ·rename_i r l2 h2
   simp only[Option.some.injEq,Prod.mk.injEq] at h
   obtain⟨rfl,rfl⟩:=h
   exact (textB_of h2).1
 split at h
 ·rename_i h1 h2 hk
  rw[if_neg h1,if_neg h2,if_pos hk]
  match l,h with
  | [],h=>simp [pOne] at h
  | y::l,h =>
   simp only[pOne,Option.some.injEq,Prod.mk.injEq] at h
   obtain⟨rfl,rfl⟩:=h
   simp only[Int.toNat_natCast,yN_of rfl,List.cons_append,List.nil_append]
 ·rename_i h1 h2 h3
  rw[if_neg h1,if_neg h2,if_neg h3]
  simp only[Option.some.injEq,Prod.mk.injEq] at h
  exact h.2
theorem whoOk_has {k who seq code:Int}(h:whoOk k who seq code=true):0<=who/\who<=9/\0<=seq/\seq<=65535/\0<=code/\code<=6:=by
 unfold whoOk at h
 split at h
 ·simp only[decide_eq_true_eq] at h;omega
 ·simp only[decide_eq_true_eq] at h;omega
theorem pRec_put {gen place:Int}{r:Rec}(h:recOk r=true) (g0:0<=gen) (g1:gen<=65535) (p0:0<=place) (p1:place<=65535) (l:List UInt8):pRec (recB gen place r++l)=some ((gen,place,r),l):=by
 obtain⟨k,R,key,n,who,seq,code⟩:=r
 simp only[recOk,Bool.and_eq_true] at h
 obtain⟨h1,h2⟩:=h
 have hw:=whoOk_has h2
 obtain⟨_,hk1,hk2⟩:=pBody_put h1 []
 unfold recB pRec
 simp only[List.append_assoc,List.cons_append]
 rw[pWord_put g0 (by omega)]
 simp only
 rw[pWord_put p0 (by omega)]
 simp only[pOne,yN_toNat (n:=k.toNat) (by omega),Int.toNat_of_nonneg (show 0<=k by omega)]
 rw[(pBody_put h1 _).1]
 simp only[yN_toNat (n:=who.toNat) (by omega),Int.toNat_of_nonneg (show 0<=who by omega),yN_toNat (n:=code.toNat) (by omega),Int.toNat_of_nonneg (show 0<=code by omega)]
 rw[pWord_put (by omega) (by omega)]
theorem recB_of {l q:List UInt8}{x:Int×Int×Rec}(h:pRec l=some (x,q)):l=recB x.1 x.2.1 x.2.2++q/\0<=x.1/\x.1<=65535/\0<=x.2.1/\x.2.1<=65535:=by
 unfold pRec at h
 split at h
 ·cases h
 rename_i gen l1 h1
 obtain⟨rfl,g0,g1⟩:=wordB_of h1
 split at h
 ·cases h
 rename_i place l2 h2
 obtain⟨rfl,p0,p1⟩:=wordB_of h2
 match l2,h with
 | [],h=>simp [pOne] at h
 | kb::l2,h =>
 simp only[pOne] at h
 split at h
 ·cases h
 rename_i R key n l3 h3
 have e3:=bodyB_of h3
 match l3,h,e3 with
 | [],h,_=>simp at h
 | [_],h,_=>simp at h
 | w::c::l3,h,e3 =>
 simp only at h
 split at h
 ·cases h
 rename_i seq l4 h4
 obtain⟨rfl,s0,s1⟩:=wordB_of h4
 simp only[Option.some.injEq,Prod.mk.injEq] at h
 obtain⟨rfl,rfl⟩:=h
 refine⟨?_,g0,by simp only;omega,p0,by simp only;omega⟩
 simp only at e3
 unfold recB
 simp only[List.append_assoc,List.cons_append,Int.toNat_natCast]
 rw[yN_of (b:=kb) rfl,yN_of (b:=w) rfl,yN_of (b:=c) rfl,<-e3]
theorem getRec_put {gen place:Int}{r:Rec}(h:recOk r=true) (g0:0<=gen) (g1:gen<=65535) (p0:0<=place) (p1:place<=65535):getRec (putRec gen place r)=some (gen,place,r):=by
 unfold putRec getRec sumB
 rw[if_pos ⟨h,g0,g1,p0,p1⟩,pRec_put h g0 g1 p0 p1]
 simp only[List.length_append,wordB_len,Nat.add_sub_cancel,List.take_left]
 rw[if_pos ⟨trivial,trivial,h⟩]
theorem putRec_of {b:List UInt8}{x:Int×Int×Rec}(h:getRec b=some x):putRec x.1 x.2.1 x.2.2=b/\recOk x.2.2=true/\0<=x.1/\x.1<=65535/\0<=x.2.1/\x.2.1<=65535:=by
 unfold getRec at h
 split at h
 ·cases h
 rename_i y l h1
 split at h
 case isFalse=>cases h
 rename_i hc
 simp only[Option.some.injEq] at h;subst h
 obtain⟨h2,h3,h4⟩:=hc
 obtain⟨h5,a,b',c,d⟩:=recB_of h1
 refine⟨?_,h4,a,b',c,d⟩
 unfold putRec sumB
 rw[if_pos ⟨h4,a,b',c,d⟩]
 have e:b.take (b.length - 2)=recB y.1 y.2.1 y.2.2:=by
  rw[h5,List.length_append,h3,Nat.add_sub_cancel,List.take_left]
 rw[e] at h2
 rw[<-h2,<-h5]
theorem cnd_and (a b:Bool):cnd a (some b) (some false)=some (a && b):=by cases a<;>rfl
theorem cnd_andL {ρ:Type}(a b:Bool):cnd a (some (.inl b)) (some (.inl false))=(some (.inl (a && b)):Option (Bool ⊕ ρ)):=by cases a<;>rfl
theorem sEq_nil (l:List UInt8):sEq l []=l.isEmpty:=by cases l<;>rfl
theorem s_noRow (r:Row):F_s_l11NoRow r=some (noRow r):=by
 obtain⟨key,⟨ot,ob⟩,⟨nt,nb⟩,has,aside⟩:=r
 unfold F_s_l11NoRow noRow
 have e1:=s_l9None (ot,ob)
 have e2:=s_l9None (nt,nb)
 simp only[e1,e2,bnd_s,cnd_and,sEq_nil,iEq_d]
 congr 1
 cases aside<;>simp [bNot,Bool.and_assoc]
theorem i_noRow (r:Row):F_i_sameRow ((r.1,((r.2.1.1,r.2.1.2),((r.2.2.1.1,r.2.2.1.2),(r.2.2.2.1,r.2.2.2.2)))),([],((0,[]),((0,[]),(0,false)))))=some (noRow r):=by
 obtain⟨key,⟨ot,ob⟩,⟨nt,nb⟩,has,aside⟩:=r
 unfold F_i_sameRow noRow
 have e1:F_i_sameCell ((ot,ob),(0,[]))=_:=i_sameZero (ot,ob)
 have e2:F_i_sameCell ((nt,nb),(0,[]))=_:=i_sameZero (nt,nb)
 simp only[e1,e2,bnd_s,cnd_and,sEq_nil,iEq_d]
 congr 1
 cases aside<;>simp [bEq,Bool.and_assoc]
theorem who_s (k w sq cd:Int):cnd (decide (w=0)) (some (decide (sq=0) && (decide (cd=0) && iNe k 4))) (some (decide (1<=w/\w<=9) && (decide (0<=sq/\sq<=65535) && decide (0<=cd/\cd<=6))))=some (whoOk k w sq cd):=by
 unfold whoOk
 by_cases h:w=0
 ·rw[decide_eq_true h,cnd_t,if_pos h]
  simp only[iNe]
  congr 1
  rw[Bool.eq_iff_iff]
  simp
 ·rw[decide_eq_false h,cnd_f,if_neg h]
  congr 1
  rw[Bool.eq_iff_iff]
  simp only[Bool.and_eq_true,decide_eq_true_eq]
  omega
theorem body_s (k n:Int) (R:Row) (key:List UInt8) (f:Bool):(joinX (cnd (decide (k=1)) (some (.inl (rowOk R,(key.isEmpty,decide (n=0))))) (cnd (decide (k=2)) (some (.inl (noRow R,(nameOk key,decide (n=0))))) (cnd (decide (k=3)) (some (.inl (noRow R,(key.isEmpty,decide (0<=n/\n<=7))))) (some (.inl (noRow R,(key.isEmpty,decide (n=0))))))):Option ((Bool×Bool×Bool) ⊕ Bool)) fun z=>some (decide (1<=k/\k<=4) && (z.1 && (z.2.1 && (z.2.2 && f)))))=some (bodyOk k R key n && f):=by
 unfold bodyOk
 rcases (show k=1\/k=2\/k=3\/k=4\/¬ (1<=k/\k<=4) by omega) with rfl | rfl | rfl | rfl | h
 ·generalize rowOk R=a;generalize key.isEmpty=b;generalize decide (n=0)=c
  cases a<;>cases b<;>cases c<;>cases f<;>rfl
 ·generalize noRow R=a;generalize nameOk key=b;generalize decide (n=0)=c
  cases a<;>cases b<;>cases c<;>cases f<;>rfl
 ·generalize noRow R=a;generalize key.isEmpty=b;generalize decide (0<=n/\n<=7)=c
  cases a<;>cases b<;>cases c<;>cases f<;>rfl
 ·generalize noRow R=a;generalize key.isEmpty=b;generalize decide (n=0)=c
  cases a<;>cases b<;>cases c<;>cases f<;>rfl
 ·rw[decide_eq_false h,decide_eq_false (show ¬ k=1 by omega),decide_eq_false (show ¬ k=2 by omega),decide_eq_false (show ¬ k=3 by omega),if_neg (by omega),if_neg (by omega),if_neg (by omega),if_neg (by omega)]
  rfl
theorem s_RecOk {r:Rec}(h1:r.2.1.1.length<9223372036854775807) (h2:r.2.2.1.length<9223372036854775807):F_s_RecOk r=some (recOk r):=by
 obtain⟨k,⟨key,⟨ot,ob⟩,⟨nt,nb⟩,has,aside⟩,name,n,w,sq,cd⟩:=r
 simp only at h1 h2
 have e1:=s_noRow (key,((ot,ob),((nt,nb),(has,aside))))
 have e2:F_s_RowOk (key,((ot,ob),((nt,nb),(has,aside))))=_:=s_RowOk (by simp only;omega)
 have e3:=s_NameOk h2
 have e4:∀ x l h:Int,F_s_l1In (x,(l,h))=some (decide (l<=x/\x<=h)):=s_In
 unfold F_s_RecOk recOk F_s_l11Who F_s_l1Word
 simp only[e1,e2,e3,e4,bnd_s,cnd_and,sEq_nil,iEq_d,who_s,body_s]
theorem body_i (k n w:Int) (R:Row) (key:List UInt8):cnd (decide (k=1)) (some (.inl (rowOk R && (key.isEmpty && decide (n=0))))) (cnd (decide (k=2)) (some (.inl (noRow R && (nameOk key && decide (n=0))))) (cnd (decide (k=3)) (some (.inl (noRow R && (key.isEmpty && decide (0<=n/\n<=7))))) (some (.inl (decide (k=4) && (noRow R && (key.isEmpty && (decide (n=0) && iNe w 0))))))))=(some (.inl (bodyOk k R key n && !(decide (k=4/\w=0)))):Option (Bool ⊕ Bool)):=by
 unfold bodyOk
 rcases (show k=1\/k=2\/k=3\/k=4\/¬ (1<=k/\k<=4) by omega) with rfl | rfl | rfl | rfl | h
 ·generalize rowOk R=a;generalize key.isEmpty=b;generalize decide (n=0)=c
  rw[decide_eq_false (show ¬ ((1:Int)=4/\w=0) by omega)]
  cases a<;>cases b<;>cases c<;>rfl
 ·generalize noRow R=a;generalize nameOk key=b;generalize decide (n=0)=c
  rw[decide_eq_false (show ¬ ((2:Int)=4/\w=0) by omega)]
  cases a<;>cases b<;>cases c<;>rfl
 ·generalize noRow R=a;generalize key.isEmpty=b;generalize decide (0<=n/\n<=7)=c
  rw[decide_eq_false (show ¬ ((3:Int)=4/\w=0) by omega)]
  cases a<;>cases b<;>cases c<;>rfl
 ·generalize noRow R=a;generalize key.isEmpty=b;generalize decide (n=0)=c
  rw[show decide ((4:Int)=4/\w=0)=!iNe w 0 by rw[Bool.eq_iff_iff];simp [iNe]]
  generalize iNe w 0=d
  cases a<;>cases b<;>cases c<;>cases d<;>rfl
 ·rw[decide_eq_false (show ¬ k=1 by omega),decide_eq_false (show ¬ k=2 by omega),decide_eq_false (show ¬ k=3 by omega),decide_eq_false (show ¬ k=4 by omega),if_neg (by omega),if_neg (by omega),if_neg (by omega),if_neg (by omega)]
  rfl
theorem who_i (k w sq cd:Int) (b:Bool):cnd (decide (w=0)) (some ((b && !(decide (k=4/\w=0))) && (decide (sq=0) && decide (cd=0)))) (some ((b && !(decide (k=4/\w=0))) && (decide (1<=w/\w<=9) && (decide (0<=sq/\sq<=65535) && decide (0<=cd/\cd<=6)))))=some (b && whoOk k w sq cd):=by
 unfold whoOk
 by_cases h:w=0
 ·rw[decide_eq_true h,cnd_t,if_pos h]
  congr 1
  rw[Bool.and_assoc];congr 1
  rw[Bool.eq_iff_iff]
  simp only[Bool.and_eq_true,decide_eq_true_eq,Bool.not_eq_true',decide_eq_false_iff_not]
  omega
 ·rw[decide_eq_false h,cnd_f,if_neg h]
  congr 1
  rw[Bool.and_assoc];congr 1
  rw[Bool.eq_iff_iff]
  simp only[Bool.and_eq_true,decide_eq_true_eq,Bool.not_eq_true',decide_eq_false_iff_not]
  omega
theorem i_RecOk {r:Rec}(h1:r.2.1.1.length<9223372036854775807) (h2:r.2.2.1.length<9223372036854775807):F_i_RecOk r=some (recOk r):=by
 obtain⟨k,⟨key,⟨ot,ob⟩,⟨nt,nb⟩,has,aside⟩,name,n,w,sq,cd⟩:=r
 simp only at h1 h2
 have e1:=i_noRow (key,((ot,ob),((nt,nb),(has,aside))))
 have e2:F_i_RowOk (key,((ot,ob),((nt,nb),(has,aside))))=_:=i_RowOk (by simp only;omega)
 have e3:=i_NameOk h2
 have e4:∀ x l h:Int,F_i_within (x,(l,h))=some (decide (l<=x/\x<=h)):=i_In
 simp only at e1
 unfold F_i_RecOk recOk F_i_isWord
 simp only[e1,e2,e3,e4,bnd_s,cnd_and,cnd_andL,sEq_nil,iEq_d,body_i,joinX_l,who_i]
def smC (B:Nat) (r:Rec):Prop:=smR B r.2.1/\r.2.2.1.length<=B
theorem smC.mono {A B:Nat}{r:Rec}(h:smC A r) (hab:A<=B):smC B r:=⟨h.1.mono hab,Nat.le_trans h.2 hab⟩
end
end Go.Vs
