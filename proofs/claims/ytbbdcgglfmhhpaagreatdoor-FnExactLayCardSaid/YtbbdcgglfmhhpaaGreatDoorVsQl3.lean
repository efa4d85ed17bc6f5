import Derived.Test.YtbbdcgglfmhhpaaGreatDoorVsW5
import Derived.Test.YtbbdcgglfmhhpaaGreatDoorVsQl2
set_option linter.all false
namespace Go.Vs
noncomputable section
abbrev Rec:=Int×Row×List UInt8×Int×Int×Int×Int
def noRow (r:Row):Bool:=r.1.isEmpty&&noCell r.2.1&&noCell r.2.2.1&&decide (r.2.2.2.1=0)&&!r.2.2.2.2
theorem noRow_eq {r:Row}(h:noRow r=true):r=([],(0,[]),(0,[]),0,false):=by
 obtain⟨k,o,n,z,a⟩:=r
 simp only[noRow,Bool.and_eq_true,decide_eq_true_eq,List.isEmpty_iff,Bool.not_eq_true']at h
 obtain⟨⟨⟨⟨h1,h2⟩,h3⟩,h4⟩,h5⟩:=h
 rw[h1,noCell_eq h2,noCell_eq h3,h4,h5]
def bodyOk (k:Int) (R:Row) (key:List UInt8) (n:Int):Bool :=
 if k=1 then rowOk R&&key.isEmpty&&decide (n=0)
 else if k=2 then noRow R&&nameOk key&&decide (n=0)
 else if k=3 then noRow R&&key.isEmpty&&decide (0<=n/\n<=7)
 else if k=4 then noRow R&&key.isEmpty&&decide (n=0)
 else false
def whoOk (k who seq code:Int):Bool:=if who=0 then decide (seq=0/\code=0/\k≠4) else decide (1<=who/\who<=9/\0<=seq/\seq<=65535/\0<=code/\code<=6)
def recOk (r:Rec):Bool:=bodyOk r.1 r.2.1 r.2.2.1 r.2.2.2.1&&whoOk r.1 r.2.2.2.2.1 r.2.2.2.2.2.1 r.2.2.2.2.2.2
def bodyB (k:Int) (R:Row) (key:List UInt8) (n:Int):List UInt8:=if k=1 then rowB R else if k=2 then textB key else if k=3 then [yN n.toNat] else []
def recB (gen place:Int) (r:Rec):List UInt8:=wordB gen++(wordB place++(yN r.1.toNat::(bodyB r.1 r.2.1 r.2.2.1 r.2.2.2.1++(yN r.2.2.2.2.1.toNat::yN r.2.2.2.2.2.2.toNat::wordB r.2.2.2.2.2.1))))
def sumB (b:List UInt8):List UInt8:=b++wordB (crc b)
def putRec (gen place:Int) (r:Rec):List UInt8:=if recOk r=true/\0<=gen/\gen<=65535/\0<=place/\place<=65535 then sumB (recB gen place r) else []
def pBody (k:Int) (l:List UInt8):Option ((Row×List UInt8×Int)×List UInt8) :=
 if k=1 then (match pRow l with
  | none=>none
  | some (r,l)=>some ((r,[],0),l))
 else if k=2 then (match pText l with
  | none=>none
  | some (s,l)=>some ((([],(0,[]),(0,[]),0,false),s,0),l))
 else if k=3 then (match pOne l with
  | none=>none
  | some (n,l)=>some ((([],(0,[]),(0,[]),0,false),[],n),l))
 else some ((([],(0,[]),(0,[]),0,false),[],0),l)
theorem wordB_len (n:Int):(wordB n).length=2:=rfl
theorem pBody_put {k:Int}{R:Row}{key:List UInt8}{n:Int}(h:bodyOk k R key n=true) (l:List UInt8):pBody k (bodyB k R key n++l)=some ((R,key,n),l)/\1<=k/\k<=4:=by
 unfold bodyOk at h
 unfold pBody bodyB
 split at h
 ·rename_i hk
  simp only[Bool.and_eq_true,decide_eq_true_eq,List.isEmpty_iff]at h
  obtain⟨⟨h1,rfl⟩,rfl⟩:=h
  rw[if_pos hk,if_pos hk,pRow_put h1]
  exact⟨rfl,by omega,by omega⟩
 split at h
 ·rename_i h1 hk
  simp only[Bool.and_eq_true,decide_eq_true_eq]at h
  obtain⟨⟨h2,h3⟩,rfl⟩:=h
  rw[if_neg h1,if_pos hk,if_neg h1,if_pos hk,pText_put (by have:=nameOk_len h3;omega),noRow_eq h2]
  exact⟨rfl,by omega,by omega⟩
 split at h
 ·rename_i h1 h2 hk
  simp only[Bool.and_eq_true,decide_eq_true_eq,List.isEmpty_iff]at h
  obtain⟨⟨h3,rfl⟩,h4⟩:=h
  rw[if_neg h1,if_neg h2,if_pos hk,if_neg h1,if_neg h2,if_pos hk,noRow_eq h3]
  simp only[List.cons_append,List.nil_append,pOne,yN_toNat (n:=n.toNat) (by omega),Int.toNat_of_nonneg h4.1]
  exact⟨trivial,by omega,by omega⟩
 split at h
 ·rename_i h1 h2 h3 hk
  simp only[Bool.and_eq_true,decide_eq_true_eq,List.isEmpty_iff]at h
  obtain⟨⟨h4,rfl⟩,rfl⟩:=h
  rw[if_neg h1,if_neg h2,if_neg h3,if_neg h1,if_neg h2,if_neg h3,noRow_eq h4]
  exact⟨rfl,by omega,by omega⟩
 ·cases h
theorem whoOk_has {k who seq code:Int}(h:whoOk k who seq code=true):0<=who/\who<=9/\0<=seq/\seq<=65535/\0<=code/\code<=6:=by
 unfold whoOk at h
 split at h
 ·simp only[decide_eq_true_eq]at h;omega
 ·simp only[decide_eq_true_eq]at h;omega
theorem cnd_and (a b:Bool):cnd a (some b) (some false)=some (a&&b):=by cases a<;>rfl
theorem cnd_andL {ρ:Type}(a b:Bool):cnd a (some (.inl b)) (some (.inl false))=(some (.inl (a&&b)):Option (Bool ⊕ ρ)):=by cases a<;>rfl
theorem sEq_nil (l:List UInt8):sEq l []=l.isEmpty:=by cases l<;>rfl
theorem s_noRow (r:Row):Zeq r=some (noRow r):=by
 obtain⟨key,⟨ot,ob⟩,⟨nt,nb⟩,has,aside⟩:=r
 unfold Zeq noRow
 have e1:=s_l9None (ot,ob)
 have e2:=s_l9None (nt,nb)
 simp only[e1,e2,bnd_s,cnd_and,sEq_nil,iEq_d]
 congr 1
 cases aside<;>simp [bNot,Bool.and_assoc]
theorem i_noRow (r:Row):Zfa ((r.1,((r.2.1.1,r.2.1.2),((r.2.2.1.1,r.2.2.1.2),(r.2.2.2.1,r.2.2.2.2)))),([],((0,[]),((0,[]),(0,false)))))=some (noRow r):=by
 obtain⟨key,⟨ot,ob⟩,⟨nt,nb⟩,has,aside⟩:=r
 unfold Zfa noRow
 have e1:Zm ((ot,ob),(0,[]))=_:=i_sameZero (ot,ob)
 have e2:Zm ((nt,nb),(0,[]))=_:=i_sameZero (nt,nb)
 simp only[e1,e2,bnd_s,cnd_and,sEq_nil,iEq_d]
 congr 1
 cases aside<;>simp [bEq,Bool.and_assoc]
theorem who_s (k w sq cd:Int):cnd (decide (w=0)) (some (decide (sq=0)&&(decide (cd=0)&&iNe k 4))) (some (decide (1<=w/\w<=9)&&(decide (0<=sq/\sq<=65535)&&decide (0<=cd/\cd<=6))))=some (whoOk k w sq cd):=by
 unfold whoOk
 by_cases h:w=0
 ·rw[decide_eq_true h,cnd_t,if_pos h]
  simp only[iNe]
  congr 1
  rw[Bool.eq_iff_iff]
  simp
 ·rw[decide_eq_false h,cnd_f,if_neg h]
  congr 1
  rw[Bool.eq_iff_iff]
  simp only[Bool.and_eq_true,decide_eq_true_eq]
  omega
theorem body_s (k n:Int) (R:Row) (key:List UInt8) (f:Bool):(joinX (cnd (decide (k=1)) (some (.inl (rowOk R,(key.isEmpty,decide (n=0))))) (cnd (decide (k=2)) (some (.inl (noRow R,(nameOk key,decide (n=0))))) (cnd (decide (k=3)) (some (.inl (noRow R,(key.isEmpty,decide (0<=n/\n<=7))))) (some (.inl (noRow R,(key.isEmpty,decide (n=0))))))):Option ((Bool×Bool×Bool) ⊕ Bool)) fun z=>some (decide (1<=k/\k<=4)&&(z.1&&(z.2.1&&(z.2.2&&f)))))=some (bodyOk k R key n&&f):=by
 unfold bodyOk
 rcases (show k=1\/k=2\/k=3\/k=4\/¬(1<=k/\k<=4) by omega) with rfl|rfl|rfl|rfl|h
 ·generalize rowOk R=a;generalize key.isEmpty=b;generalize decide (n=0)=c
  cases a<;>cases b<;>cases c<;>cases f<;>rfl
 ·generalize noRow R=a;generalize nameOk key=b;generalize decide (n=0)=c
  cases a<;>cases b<;>cases c<;>cases f<;>rfl
 ·generalize noRow R=a;generalize key.isEmpty=b;generalize decide (0<=n/\n<=7)=c
  cases a<;>cases b<;>cases c<;>cases f<;>rfl
 ·generalize noRow R=a;generalize key.isEmpty=b;generalize decide (n=0)=c
  cases a<;>cases b<;>cases c<;>cases f<;>rfl
 ·rw[decide_eq_false h,decide_eq_false (show ¬k=1 by omega),decide_eq_false (show ¬k=2 by omega),decide_eq_false (show ¬k=3 by omega),if_neg (by omega),if_neg (by omega),if_neg (by omega),if_neg (by omega)]
  rfl
theorem s_RecOk {r:Rec}(h1:r.2.1.1.length<9223372036854775807) (h2:r.2.2.1.length<9223372036854775807):Zct r=some (recOk r):=by
 obtain⟨k,⟨key,⟨ot,ob⟩,⟨nt,nb⟩,has,aside⟩,name,n,w,sq,cd⟩:=r
 simp only at h1 h2
 have e1:=s_noRow (key,((ot,ob),((nt,nb),(has,aside))))
 have e2:Zv (key,((ot,ob),((nt,nb),(has,aside))))=_:=s_RowOk (by simp only;omega)
 have e3:=s_NameOk h2
 have e4:∀x l h:Int,Zb (x,(l,h))=some (decide (l<=x/\x<=h)):=s_In
 unfold Zct recOk Zfv Zw
 simp only[e1,e2,e3,e4,bnd_s,cnd_and,sEq_nil,iEq_d,who_s,body_s]
theorem body_i (k n w:Int) (R:Row) (key:List UInt8):cnd (decide (k=1)) (some (.inl (rowOk R&&(key.isEmpty&&decide (n=0))))) (cnd (decide (k=2)) (some (.inl (noRow R&&(nameOk key&&decide (n=0))))) (cnd (decide (k=3)) (some (.inl (noRow R&&(key.isEmpty&&decide (0<=n/\n<=7))))) (some (.inl (decide (k=4)&&(noRow R&&(key.isEmpty&&(decide (n=0)&&iNe w 0))))))))=(some (.inl (bodyOk k R key n&&!(decide (k=4/\w=0)))):Option (Bool ⊕ Bool)):=by
 unfold bodyOk
 rcases (show k=1\/k=2\/k=3\/k=4\/¬(1<=k/\k<=4) by omega) with rfl|rfl|rfl|rfl|h
 ·generalize rowOk R=a;generalize key.isEmpty=b;generalize decide (n=0)=c
  rw[decide_eq_false (show ¬((1:Int)=4/\w=0) by omega)]
  cases a<;>cases b<;>cases c<;>rfl
 ·generalize noRow R=a;generalize nameOk key=b;generalize decide (n=0)=c
  rw[decide_eq_false (show ¬((2:Int)=4/\w=0) by omega)]
  cases a<;>cases b<;>cases c<;>rfl
 ·generalize noRow R=a;generalize key.isEmpty=b;generalize decide (0<=n/\n<=7)=c
  rw[decide_eq_false (show ¬((3:Int)=4/\w=0) by omega)]
  cases a<;>cases b<;>cases c<;>rfl
 ·generalize noRow R=a;generalize key.isEmpty=b;generalize decide (n=0)=c
  rw[show decide ((4:Int)=4/\w=0)=!iNe w 0 by rw[Bool.eq_iff_iff];simp [iNe]]
  generalize iNe w 0=d
  cases a<;>cases b<;>cases c<;>cases d<;>rfl
 ·rw[decide_eq_false (show ¬k=1 by omega),decide_eq_false (show ¬k=2 by omega),decide_eq_false (show ¬k=3 by omega),decide_eq_false (show ¬k=4 by omega),if_neg (by omega),if_neg (by omega),if_neg (by omega),if_neg (by omega)]
  rfl
theorem who_i (k w sq cd:Int) (b:Bool):cnd (decide (w=0)) (some ((b&&!(decide (k=4/\w=0)))&&(decide (sq=0)&&decide (cd=0)))) (some ((b&&!(decide (k=4/\w=0)))&&(decide (1<=w/\w<=9)&&(decide (0<=sq/\sq<=65535)&&decide (0<=cd/\cd<=6)))))=some (b&&whoOk k w sq cd):=by
 unfold whoOk
 by_cases h:w=0
 ·rw[decide_eq_true h,cnd_t,if_pos h]
  congr 1
  rw[Bool.and_assoc];congr 1
  rw[Bool.eq_iff_iff]
  simp only[Bool.and_eq_true,decide_eq_true_eq,Bool.not_eq_true',decide_eq_false_iff_not]
  omega
 ·rw[decide_eq_false h,cnd_f,if_neg h]
  congr 1
  rw[Bool.and_assoc];congr 1
  rw[Bool.eq_iff_iff]
  simp only[Bool.and_eq_true,decide_eq_true_eq,Bool.not_eq_true',decide_eq_false_iff_not]
  omega
theorem i_RecOk {r:Rec}(h1:r.2.1.1.length<9223372036854775807) (h2:r.2.2.1.length<9223372036854775807):Zdd r=some (recOk r):=by
 obtain⟨k,⟨key,⟨ot,ob⟩,⟨nt,nb⟩,has,aside⟩,name,n,w,sq,cd⟩:=r
 simp only at h1 h2
 have e1:=i_noRow (key,((ot,ob),((nt,nb),(has,aside))))
 have e2:Zba (key,((ot,ob),((nt,nb),(has,aside))))=_:=i_RowOk (by simp only;omega)
 have e3:=i_NameOk h2
 have e4:∀x l h:Int,Zd (x,(l,h))=some (decide (l<=x/\x<=h)):=i_In
 simp only at e1
 unfold Zdd recOk Zbb
 simp only[e1,e2,e3,e4,bnd_s,cnd_and,cnd_andL,sEq_nil,iEq_d,body_i,joinX_l,who_i]
def smC (B:Nat) (r:Rec):Prop:=smR B r.2.1/\r.2.2.1.length<=B
theorem smC.mono {A B:Nat}{r:Rec}(h:smC A r) (hab:A<=B):smC B r:=⟨h.1.mono hab,Nat.le_trans h.2 hab⟩
theorem sum_step {n:Nat}(h:n<65536):(joinX (cnd (iGt ((2*n:Nat):Int) 65535) (some (.inl (iXor .i64 ((2*n:Nat):Int) 69665))) (some (.inl ((2*n:Nat):Int)))) fun z=>some z:Option Int)=some ((crc1 n:Nat):Int):=by
 unfold crc1
 by_cases h1:2*n > 65535
 ·rw[iGt_y (by omega),cnd_t,if_pos h1,show (69665:Int)=((69665:Nat):Int) from rfl,iXor_s (k:=.i64) (by show _<2^63;omega) (by show _<2^63;omega)];rfl
 ·rw[iGt_n (by omega),cnd_f,if_neg h1];rfl
theorem sum_in {ρ:Type}{step:Int×Int->Option ((Int×Int) ⊕ (Int ⊕ ρ))}{x:Nat}(hx:x<65536)
  (hs:∀n i:Nat,n<65536->i<8->step ((n:Int),(i:Int))=some (.inl (((crc1 n:Nat):Int),((i+1:Nat):Int))))
  (he:∀n:Nat,step ((n:Int),8)=some (.inr (.inl (n:Int)))):loopX step ((x:Int),0)=some (.inl ((crcN 8 x:Nat):Int)):=by
 rw[loop_exact (fun i=>(((crcN i x:Nat):Int),(i:Int))) 8 (.inl ((crcN 8 x:Nat):Int))]
 ·intro i hi
  rw[hs _ _ (crcN_lt hx) hi,<-crcN_succ]
 ·exact he _
 ·rfl
theorem s_sum0 {x:Nat}(hx:x<65536):loopX Zgx ((x:Int),0)=some (.inl ((crcN 8 x:Nat):Int)):=by
 refine sum_in hx (fun n i hn hi=>?_) fun n=>rfl
 have e:iShl .i64 (n:Int) 1=((2*n:Nat):Int):=by
  rw[show iShl .i64 (n:Int) 1=((n*2^1:Nat):Int) from iShl_s (k:=.i64) (s:=1) (by decide) (by show _<2^63;omega)];congr 1;omega
 have k:=sum_step hn
 unfold Zgx
 simp only[e]
 rw[iLt_y (by omega),cnd_t]
 unfold crc1
 by_cases h1:2*n > 65535
 ·rw[iGt_y (by omega),cnd_t,if_pos h1,show (69665:Int)=((69665:Nat):Int) from rfl,iXor_s (k:=.i64) (by show _<2^63;omega) (by show _<2^63;omega),joinX_l,iAdd_ok (by omega) (by omega)];rfl
 ·rw[iGt_n (by omega),cnd_f,if_neg h1,joinX_l,iAdd_ok (by omega) (by omega)];rfl
theorem i_sum0 {x:Nat}(hx:x<65536):loopX Zhf ((x:Int),0)=some (.inl ((crcN 8 x:Nat):Int)):=by
 refine sum_in hx (fun n i hn hi=>?_) fun n=>rfl
 have e:iMul .i64 (n:Int) 2=((2*n:Nat):Int):=by
  show IntKind.wrap _ _=_
  rw[wrap_i64 (by omega) (by omega)];omega
 unfold Zhf
 simp only[e]
 rw[iLt_y (by omega),cnd_t]
 unfold crc1
 by_cases h1:2*n > 65535
 ·rw[iGt_y (by omega),cnd_t,if_pos h1,show (69665:Int)=((69665:Nat):Int) from rfl,iXor_s (k:=.i64) (by show _<2^63;omega) (by show _<2^63;omega),joinX_l,iAdd_ok (by omega) (by omega)];rfl
 ·rw[iGt_n (by omega),cnd_f,if_neg h1,joinX_l,iAdd_ok (by omega) (by omega)];rfl
theorem sum_out {l:List UInt8}{step:Int×Int->Option ((Int×Int) ⊕ (Int ⊕ Int))}(hs:∀(x i:Nat) (h:i<l.length),x<65536->step ((x:Int),(i:Int))=some (.inl (((crcB x l[i]:Nat):Int),((i+1:Nat):Int)))) (he:∀x:Int,step (x,(l.length:Int))=some (.inr (.inl x))):(joinX (loopX step (65535,0)) fun z=>some (iAnd .i64 z 65535))=some ((crc l:Nat):Int):=by
 rw[loop_exact (fun i=>(((crc (l.take i):Nat):Int),(i:Int))) l.length (.inl ((crc l:Nat):Int)) (fun i hi=>by rw[hs _ _ hi (crc_lt _),crc_take hi]) (by rw[he,List.take_length]) _ (by rw[List.take_zero];rfl)]
 rw[joinX_l,show (65535:Int)=((65535:Nat):Int) from rfl,iAnd_s (k:=.i64) (by have:=crc_lt l;show _<2^63;omega) (by show _<2^63;omega),and_mask (j:=16) rfl,Nat.mod_eq_of_lt (crc_lt l)]
theorem s_Sum {l:List UInt8}(hl:l.length<=1048576000):Zbg l=some ((crc l:Nat):Int):=by
 refine sum_out (fun x i h hx=>?_) fun x=>?_
 ·have hb:=y_lt l[i]
  have hx2:=crcX_lt hx l[i]
  unfold Zgy
  simp only
  rw[iLt_y (by simp only[lLen_def];omega),cnd_t,idx_at h,bnd_s,y2i_n,iConv_s (k:=.i64) (by show _<2^63;omega)]
  rw[show iShl .i64 (l[i].toNat:Int) 8=((l[i].toNat*2^8:Nat):Int) from iShl_s (k:=.i64) (s:=8) (by decide) (by show _<2^63;omega),iXor_s (k:=.i64) (by show _<2^63;omega) (by show _<2^63;omega),show l[i].toNat*2^8=256*l[i].toNat by omega,s_sum0 hx2,joinX_l,iAdd_ok (by omega) (by omega)]
  rfl
 ·unfold Zgy
  simp only
  rw[iLt_n (by simp only[lLen_def];omega),cnd_f]
theorem i_Sum {l:List UInt8}(hl:l.length<=1048576000):Zbo l=some ((crc l:Nat):Int):=by
 refine sum_out (fun x i h hx=>?_) fun x=>?_
 ·have hb:=y_lt l[i]
  have hx2:=crcX_lt hx l[i]
  have e:iMul .i64 256 (l[i].toNat:Int)=((256*l[i].toNat:Nat):Int):=by
   show IntKind.wrap _ _=_
   rw[wrap_i64 (by omega) (by omega)];omega
  unfold Zhg
  simp only
  rw[iLt_y (by simp only[lLen_def];omega),cnd_t,idx_at h,bnd_s,y2i_n,iConv_s (k:=.i64) (by show _<2^63;omega)]
  rw[e,iXor_s (k:=.i64) (by show _<2^63;omega) (by show _<2^63;omega),i_sum0 hx2,joinX_l,iAdd_ok (by omega) (by omega)]
  rfl
 ·unfold Zhg
  simp only
  rw[iLt_n (by simp only[lLen_def];omega),cnd_f]
theorem recB_len (g p:Int) (r:Rec):(recB g p r).length<=220:=by
 have h1:=rowB_len r.2.1
 have h2:=textB_len r.2.2.1
 have h3:(bodyB r.1 r.2.1 r.2.2.1 r.2.2.2.1).length<=200:=by
  unfold bodyB
  split
  ·omega
  split
  ·omega
  split
  ·simp
  ·simp
 unfold recB
 simp only[List.length_append,List.length_cons,wordB_len]
 omega
theorem body_put {A:Type}{k n:Int}{R:Row}{key z:List UInt8}{PR:List UInt8×Row->Option (List UInt8)}{PT:List UInt8×List UInt8->Option (List UInt8)}(hok:bodyOk k R key n=true) (hz:z.length<=1048576) (hR:rowOk R=true->PR (z,R)=some (z++rowB R)) (hT:nameOk key=true->PT (z,key)=some (z++textB key)) (K:List UInt8->Option A) :
  joinX (cnd (iEq k 1) (bnd (PR (z,(R.1,((R.2.1.1,R.2.1.2),((R.2.2.1.1,R.2.2.1.2),(R.2.2.2.1,R.2.2.2.2)))))) (fun z6=>(some (.inl z6)))) (cnd (iEq k 2) (bnd (PT (z,key)) (fun z6=>(some (.inl z6)))) (cnd (iEq k 3) (chk (room (z.length+1) 1) (some (.inl (lApp z [(u8 (iConv .u8 n))])))) (some (.inl z))))) K=K (z++bodyB k R key n):=by
 unfold bodyOk at hok
 unfold bodyB
 simp only[iEq_d]
 by_cases h1:k=1
 ·rw[if_pos h1]at hok ⊢
  simp only[Bool.and_eq_true]at hok
  rw[decide_eq_true h1,cnd_t,show PR (z,(R.1,((R.2.1.1,R.2.1.2),((R.2.2.1.1,R.2.2.1.2),(R.2.2.2.1,R.2.2.2.2)))))=_ from hR hok.1.1,bnd_s,joinX_l]
 rw[if_neg h1]at hok ⊢
 rw[decide_eq_false h1,cnd_f]
 by_cases h2:k=2
 ·rw[if_pos h2]at hok ⊢
  simp only[Bool.and_eq_true]at hok
  rw[decide_eq_true h2,cnd_t,hT hok.1.2,bnd_s,joinX_l]
 rw[if_neg h2]at hok ⊢
 rw[decide_eq_false h2,cnd_f]
 by_cases h3:k=3
 ·rw[if_pos h3]at hok ⊢
  simp only[Bool.and_eq_true,decide_eq_true_eq]at hok
  rw[decide_eq_true h3,cnd_t,room_ok (by omega),chk_t,joinX_l,conv_has hok.2.1];rfl
 rw[if_neg h3,decide_eq_false h3,cnd_f,joinX_l,List.append_nil]
theorem rec_tail {q:List UInt8}{who code seq:Int}{PW:List UInt8×Int->Option (List UInt8)}{SM:List UInt8->Option Int}(hq:q.length<=1048576) (h1:0<=who) (h2:0<=code) (h3:0<=seq/\seq<=65535) (hW:∀{l:List UInt8}{n:Int},l.length<=1099511627776->0<=n->n<65536->PW (l,n)=some (l++wordB n)) (hS:∀{l:List UInt8},l.length<=1048576000->SM l=some ((crc l:Nat):Int)) :
  chk (room (q.length+2) 1) (bnd (PW ((lApp q [(u8 (iConv .u8 who)),(u8 (iConv .u8 code))]),seq)) (fun z7=>(bnd (SM z7) (fun z8=>(bnd (PW (z7,z8)) (fun z9=>(some z9)))))))=some (sumB (q++(yN who.toNat::yN code.toNat::wordB seq))):=by
 rw[room_ok (by omega),chk_t,conv_has h1,conv_has h2,hW (by simp only[lApp,List.length_append,List.length_cons,List.length_nil];omega) h3.1 (by omega),bnd_s]
 have hl:(lApp q [yN who.toNat,yN code.toNat]++wordB seq).length<=1048600:=by simp only[lApp,List.length_append,List.length_cons,List.length_nil,wordB_len];omega
 rw[hS (by omega),bnd_s,hW (by omega) (by omega) (by have:=crc_lt (lApp q [yN who.toNat,yN code.toNat]++wordB seq);omega),bnd_s]
 simp only[lApp,sumB,List.append_assoc,List.cons_append,List.nil_append]
theorem l1Word_s (x:Int):Zw x=some (decide (0<=x/\x<=65535)):=by unfold Zw;rw[s_In,bnd_s]
theorem isWord_i (x:Int):Zbb x=some (decide (0<=x/\x<=65535)):=by unfold Zbb;rw[i_In,bnd_s]
theorem s_PutRec {g p:Int}{r:Rec}(h:smC 1048576 r):Zcu (g,(p,r))=some (putRec g p r):=by
 obtain⟨k,R,key,n,who,seq,code⟩:=r
 have hR:=h.1
 have hk:=h.2
 simp only at hR hk
 have e0:Zct (k,((R.1,((R.2.1.1,R.2.1.2),((R.2.2.1.1,R.2.2.1.2),(R.2.2.2.1,R.2.2.2.2)))),(key,(n,(who,(seq,code))))))=some (recOk (k,R,key,n,who,seq,code)):=s_RecOk (r:=(k,R,key,n,who,seq,code)) (by have:=hR.1;simp only;omega) (by simp only;omega)
 unfold Zcu putRec
 simp only[alt2_self,e0,l1Word_s,bnd_s]
 cases hok:recOk (k,R,key,n,who,seq,code) with
 | false=>rw[if_neg (fun q=>by cases q.1)];rfl
 | true =>
 rw[bNot_t,cnd_f]
 by_cases hg:0<=g/\g<=65535
 case neg=>rw[decide_eq_false hg,if_neg (fun q=>hg ⟨q.2.1,q.2.2.1⟩)];rfl
 rw[decide_eq_true hg,bNot_t,cnd_f]
 by_cases hp:0<=p/\p<=65535
 case neg=>rw[decide_eq_false hp,if_neg (fun q=>hp ⟨q.2.2.2.1,q.2.2.2.2⟩)];rfl
 rw[decide_eq_true hp,bNot_t,cnd_f,if_pos ⟨rfl,hg.1,hg.2,hp.1,hp.2⟩]
 simp only[recOk,Bool.and_eq_true]at hok
 obtain⟨hb,hw⟩:=hok
 have hw':=whoOk_has hw
 obtain⟨_,hk1,hk2⟩:=pBody_put hb []
 rw[s_PutW (by simp) hg.1 (by omega),bnd_s,s_PutW (by simp [wordB]) hp.1 (by omega),bnd_s,room_ok (by simp [wordB]),chk_t,conv_has (show 0<=k by omega)]
 have hl:(lApp ([]++wordB g++wordB p) [yN k.toNat]).length=5:=by simp [lApp,wordB]
 have hbl:(bodyB k R key n).length<=200:=by
  have:=recB_len g p (k,R,key,n,who,seq,code)
  simp only[recB,List.length_append,List.length_cons,wordB_len]at this
  have h1:=rowB_len R
  have h2:=textB_len key
  unfold bodyB
  split
  ·omega
  split
  ·omega
  split
  ·simp
  ·simp
 rw[body_put (PR:=Zbf) (PT:=Zq) hb (by omega) (fun q=>by rw[s_PutRow (by omega) hR,putRow,if_pos q]) (fun q=>s_PutText (by omega) (by omega))]
 rw[rec_tail (PW:=Zf) (SM:=Zbg) (by rw[List.length_append,hl];omega) hw'.1 hw'.2.2.2.2.1 ⟨hw'.2.2.1,hw'.2.2.2.1⟩ s_PutW s_Sum]
 simp only[recB,lApp,List.append_assoc,List.cons_append,List.nil_append]
theorem i_PutRec {g p:Int}{r:Rec}(h:smC 1048576 r):Zbp (g,(p,r))=some (putRec g p r):=by
 obtain⟨k,R,key,n,who,seq,code⟩:=r
 have hR:=h.1
 have hk:=h.2
 simp only at hR hk
 have e0:Zdd (k,((R.1,((R.2.1.1,R.2.1.2),((R.2.2.1.1,R.2.2.1.2),(R.2.2.2.1,R.2.2.2.2)))),(key,(n,(who,(seq,code))))))=some (recOk (k,R,key,n,who,seq,code)):=i_RecOk (r:=(k,R,key,n,who,seq,code)) (by have:=hR.1;simp only;omega) (by simp only;omega)
 unfold Zbp putRec
 simp only[alt2_self,e0,isWord_i,bnd_s]
 cases hok:recOk (k,R,key,n,who,seq,code) with
 | false=>rw[if_neg (fun q=>by cases q.1)];rfl
 | true =>
 rw[bNot_t,cnd_f]
 by_cases hg:0<=g/\g<=65535
 case neg=>rw[decide_eq_false hg,if_neg (fun q=>hg ⟨q.2.1,q.2.2.1⟩)];rfl
 rw[decide_eq_true hg,bNot_t,cnd_f]
 by_cases hp:0<=p/\p<=65535
 case neg=>rw[decide_eq_false hp,if_neg (fun q=>hp ⟨q.2.2.2.1,q.2.2.2.2⟩)];rfl
 rw[decide_eq_true hp,bNot_t,cnd_f,if_pos ⟨rfl,hg.1,hg.2,hp.1,hp.2⟩]
 simp only[recOk,Bool.and_eq_true]at hok
 obtain⟨hb,hw⟩:=hok
 have hw':=whoOk_has hw
 obtain⟨_,hk1,hk2⟩:=pBody_put hb []
 rw[i_PutW (by simp) hg.1 (by omega),bnd_s,i_PutW (by simp [wordB]) hp.1 (by omega),bnd_s,room_ok (by simp [wordB]),chk_t,conv_has (show 0<=k by omega)]
 have hl:(lApp ([]++wordB g++wordB p) [yN k.toNat]).length=5:=by simp [lApp,wordB]
 have hbl:(bodyB k R key n).length<=200:=by
  have:=recB_len g p (k,R,key,n,who,seq,code)
  simp only[recB,List.length_append,List.length_cons,wordB_len]at this
  have h1:=rowB_len R
  have h2:=textB_len key
  unfold bodyB
  split
  ·omega
  split
  ·omega
  split
  ·simp
  ·simp
 rw[body_put (PR:=Zbn) (PT:=Zn) hb (by omega) (fun q=>by rw[i_PutRow (by omega) hR,putRow,if_pos q]) (fun q=>i_PutText (by omega) (by omega))]
 rw[rec_tail (PW:=Zg) (SM:=Zbo) (by rw[List.length_append,hl];omega) hw'.1 hw'.2.2.2.2.1 ⟨hw'.2.2.1,hw'.2.2.2.1⟩ i_PutW i_Sum]
 simp only[recB,lApp,List.append_assoc,List.cons_append,List.nil_append]
end
end Go.Vs
