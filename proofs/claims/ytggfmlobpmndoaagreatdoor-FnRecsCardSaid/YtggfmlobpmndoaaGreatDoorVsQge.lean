import Derived.Test.YtggfmlobpmndoaaGreatDoorVsW5
import Derived.Test.YtggfmlobpmndoaaGreatDoorVsQgd
set_option linter.all false
namespace Go.Vs
noncomputable section
structure Reader {α:Type} (l:List UInt8) (F:List UInt8×Int×Bool->Option (α×Int×Bool)) (p:List UInt8->Option (α×List UInt8)):Prop where
 good:∀ {a:Int} {t:List UInt8},Rd l a t->RdW l (F (l,(a,false))) (p t)
 bad:∀ a:Int,∃ v b,F (l,(a,true))=some (v,(b,true))
theorem RdR.w {α:Type}{l:List UInt8}{z:α}{o:Option (α×Int×Bool)}{p:Option (α×List UInt8)}{a:Int}(h:RdR l z o p a):RdW l o p:=by
 cases p with
 | none=>exact⟨z,a,h⟩
 | some v=>exact h
def Ans {β:Type}(l:List UInt8) (z:β) (P:Prop) (K:Int×Bool->Option β) (f:List UInt8->β):Prop:=(∀ b,K (b,true)=some z)/\(P->∀ b t,Rd l b t->K (b,false)=some (f t))
def pb {α β:Type}(z:β) (p:List UInt8->Option (α×List UInt8)) (f:α->List UInt8->β) (t:List UInt8):β:=match p t with
 | none=>z
 | some (v,q)=>f v q
theorem Ans.bind {α β:Type}{l:List UInt8}{z:β}{P:Prop}{F:List UInt8×Int×Bool->Option (α×Int×Bool)}{p:List UInt8->Option (α×List UInt8)}{K:α×Int×Bool->Option β}{f:α->List UInt8->β}(hF:Reader l F p) (Q:α->Prop) (hQ:∀ t v q,p t=some (v,q)->Q v) (hK:∀ v,Ans l z (P/\Q v) (fun s=>K (v,s)) (f v)):Ans l z P (fun s=>bnd (F (l,(s.1,s.2))) K) (pb z p f):=by
 refine⟨fun b=>?_,fun hP b t h=>?_⟩
 ·obtain⟨v,c,e⟩:=hF.bad b
  simp only[e,bnd_s]
  exact (hK v).1 c
 ·have:=hF.good h
  unfold pb
  simp only
  cases hp:p t with
  | none =>
   rw[hp] at this
   obtain⟨v,c,e⟩:=this
   rw[e];exact (hK v).1 c
  | some w =>
   obtain⟨v,q⟩:=w
   rw[hp] at this
   obtain⟨c,e,r⟩:=this
   rw[e];exact (hK v).2 ⟨hP,hQ _ _ _ hp⟩ c q r
theorem Ans.bind0 {α β:Type}{l:List UInt8}{z:β}{P:Prop}{F:List UInt8×Int×Bool->Option (α×Int×Bool)}{p:List UInt8->Option (α×List UInt8)}{K:α×Int×Bool->Option β}{f:α->List UInt8->β}(hF:Reader l F p) (hK:∀ v,Ans l z P (fun s=>K (v,s)) (f v)):Ans l z P (fun s=>bnd (F (l,(s.1,s.2))) K) (pb z p f) :=
 Ans.bind hF (fun _=>True) (fun _ _ _ _=>trivial) fun v=>⟨(hK v).1,fun h=>(hK v).2 h.1⟩
theorem rs_one {l:List UInt8}(hl:l.length<=1048576000):Reader l F_s_l11Byte pOne:=⟨fun h=>(s_one hl h).w,fun a=>⟨0,a,s_oneB⟩⟩
theorem ri_one {l:List UInt8}(hl:l.length<=1048576000):Reader l F_i_scan_one pOne:=⟨fun h=>(i_one hl h).w,fun a=>⟨0,a,i_oneB⟩⟩
theorem rs_text {l:List UInt8}(hl:l.length<=1048576000):Reader l F_s_l11Text pText:=⟨fun h=>(s_text hl h).w,fun a=>⟨[],a,s_textB hl⟩⟩
theorem ri_text {l:List UInt8}(hl:l.length<=1048576000):Reader l F_i_scan_text pText:=⟨fun h=>(i_text hl h).w,fun a=>⟨[],a,i_textB hl⟩⟩
theorem rs_row {l:List UInt8}(hl:l.length<=1048576000):Reader l F_s_l11GetRow pRow0:=⟨fun h=>s_row hl h,fun a=>⟨_,a,s_rowB hl⟩⟩
theorem i_rowB {l:List UInt8}{a:Int}(hl:l.length<=1048576000):F_i_scan_row (l,(a,true))=some (zRow,(a,true)):=by
 have bad:∀ b,_:=fun b=>cellAt_bad (C:=F_i_scan_cell) (l:=l) (b:=b) (i_cellB hl)
 unfold cellAt at bad
 unfold F_i_scan_row;simp only[i_textB hl,i_oneB,bnd_s,bits0,cnd_f,joinX_l,cnd_t];rfl
theorem ri_row {l:List UInt8}(hl:l.length<=1048576000):Reader l F_i_scan_row pRow:=⟨fun h=>i_row hl h,fun a=>⟨_,a,i_rowB hl⟩⟩
theorem pWord_2 (t:List UInt8):pWord t=match pOne t with | none=>none | some (x,t)=>match pOne t with | none=>none | some (y,t)=>some (x*256+y,t):=by
 match t with
 | []=>rfl
 | [_]=>rfl
 | x::y::l=>simp only[pWord,pOne];congr 2
theorem rs_word {l:List UInt8}(hl:l.length<=1048576000):Reader l F_s_l11Word pWord:=by
 refine⟨fun {a t} h=>?_,fun a=>⟨_,a,by unfold F_s_l11Word;simp only[s_oneB,bnd_s];rfl⟩⟩
 rw[pWord_2]
 unfold F_s_l11Word
 have h1:=s_one hl h
 cases hp:pOne t with
 | none =>
  rw[hp] at h1
  have e1:F_s_l11Byte (l,(a,false))=some (0,(a,true)):=h1
  simp only[e1,bnd_s,s_oneB]
  exact⟨_,_,rfl⟩
 | some v =>
  obtain⟨x,q⟩:=v
  rw[hp] at h1
  obtain⟨b,e1,r1⟩:=h1
  simp only[e1,bnd_s]
  have h2:=s_one hl r1
  cases hq:pOne q with
  | none =>
   rw[hq] at h2
   have e2:F_s_l11Byte (l,(b,false))=some (0,(b,true)):=h2
   simp only[e2,bnd_s]
   exact⟨_,_,rfl⟩
  | some w =>
   obtain⟨y,u⟩:=w
   rw[hq] at h2
   obtain⟨c,e2,r2⟩:=h2
   obtain⟨m,rfl,hm⟩:=pOne_nat hp
   obtain⟨n,rfl,hn⟩:=pOne_nat hq
   simp only[e2,bnd_s]
   refine⟨c, ?_,r2⟩
   rw[show iShl .i64 (m:Int) 8=((m*2 ^ 8:Nat):Int) from iShl_s (k:=.i64) (s:=8) (by decide) (by show _<2 ^ 63;omega),orc (c:=m*2 ^ 8) (q:=m) (j:=8) rfl (by omega) (by omega) (by omega)]
   rw[show ((m*2 ^ 8+n:Nat):Int)=(m:Int)*256+n by omega]
theorem ri_word {l:List UInt8}(hl:l.length<=1048576000):Reader l F_i_scan_word pWord:=by
 refine⟨fun {a t} h=>?_,fun a=>⟨_,a,by unfold F_i_scan_word;simp only[i_GetW hl,bnd_s,cnd_t];rfl⟩⟩
 unfold F_i_scan_word
 simp only[i_GetW hl,bnd_s,cnd_f,h.2.2]
 cases hp:pWord t with
 | none=>exact⟨_,_,rfl⟩
 | some w =>
  obtain⟨n,q⟩:=w
  refine⟨a+2,rfl, ?_⟩
  obtain⟨rfl,_⟩:=wordB_of hp
  exact h.app (u:=wordB n)
def ansBody {β:Type}(z:β) (pr:List UInt8->Option (Row×List UInt8)) (k:Int) (g:Row->List UInt8->Int->List UInt8->β):List UInt8->β:=if k=1 then pb z pr (fun R=>g R [] 0) else if k=2 then pb z pText (fun s=>g zRow s 0) else if k=3 then pb z pOne (fun n=>g zRow [] n) else g zRow [] 0
def ansRec {β:Type}(z:β) (pr:List UInt8->Option (Row×List UInt8)) (fin:Int×Int×Rec->List UInt8->β):List UInt8->β:=pb z pWord fun gen=>pb z pWord fun place=>pb z pOne fun k=>ansBody z pr k fun R key n=>pb z pOne fun who=>pb z pOne fun code=>pb z pWord fun seq q=>fin (gen,place,(k,R,key,n,who,seq,code)) q
abbrev Tup:=List UInt8×Int×List UInt8×Int×List UInt8×Int×Bool×List UInt8×Int×Int×Bool
theorem joinX_bnd {α σ ρ:Type}(o:Option α) (f:α->σ) (K:σ->Option ρ):joinX (bnd o fun z=>some (.inl (f z))) K=bnd o fun z=>K (f z):=by cases o<;>rfl
theorem Ans.body {β:Type}{l:List UInt8}{z:β}{P:Prop}{FR:List UInt8×Int×Bool->Option (Row×Int×Bool)}{FT:List UInt8×Int×Bool->Option (List UInt8×Int×Bool)}{FO:List UInt8×Int×Bool->Option (Int×Int×Bool)}{pr:List UInt8->Option (Row×List UInt8)}{k:Int}{K:Tup->Option β}{g:Row->List UInt8->Int->List UInt8->β}
  (hR:Reader l FR pr) (hT:Reader l FT pText) (hO:Reader l FO pOne) (hQ:∀ t v q,pr t=some (v,q)->v.1.length<=60) (hK:∀ R key n,Ans l z (P/\R.1.length<=60/\key.length<=60) (fun s=>K (R.1,(R.2.1.1,(R.2.1.2,(R.2.2.1.1,(R.2.2.1.2,(R.2.2.2.1,(R.2.2.2.2,(key,(n,(s.1,s.2))))))))))) (g R key n)) :
  Ans l z P (fun s=>joinX (cnd (iEq k 1) (bnd (FR (l,(s.1,s.2))) (fun z4=>(some (.inl (z4.1.1,(z4.1.2.1.1,(z4.1.2.1.2,(z4.1.2.2.1.1,
 (z4.1.2.2.1.2,(z4.1.2.2.2.1,(z4.1.2.2.2.2,([],(0,(z4.2.1,z4.2.2)))))))))))))) (cnd (iEq k 2) (bnd (FT (l,(s.1,s.2))) (fun z4=>(some (.inl ([],(0,([],(0,([],(0,(false,(z4.1,(0,(z4.2.1,z4.2.2)))))))))))))) (cnd (iEq k 3) (bnd (FO (l,(s.1,s.2))) (fun z4=>(some (.inl ([],(0,([],(0,([],(0,(false,([],(z4.1,(z4.2.1,
 z4.2.2)))))))))))))) (some (.inl ([],(0,([],(0,([],(0,(false,([],(0,(s.1,s.2))))))))))))))) K) (ansBody z pr k g):=by
 unfold ansBody
 simp only[iEq_d]
 by_cases h1:k=1
 ·simp only[decide_eq_true h1,cnd_t,if_pos h1,joinX_bnd]
  exact Ans.bind (K:=fun z4=>K (z4.1.1,(z4.1.2.1.1,(z4.1.2.1.2,(z4.1.2.2.1.1,(z4.1.2.2.1.2,(z4.1.2.2.2.1,(z4.1.2.2.2.2,([],(0,(z4.2.1,z4.2.2))))))))))) hR (fun R=>R.1.length<=60) hQ fun R=>⟨(hK R [] 0).1,fun h=>(hK R [] 0).2 ⟨h.1,h.2,Nat.zero_le _⟩⟩
 by_cases h2:k=2
 ·simp only[decide_eq_false h1,decide_eq_true h2,cnd_t,cnd_f,if_neg h1,if_pos h2,joinX_bnd]
  exact Ans.bind (K:=fun z4=>K ([],(0,([],(0,([],(0,(false,(z4.1,(0,(z4.2.1,z4.2.2))))))))))) hT (fun s=>s.length<=60) (fun t v q h=>(textB_of h).2) fun R=>⟨(hK zRow R 0).1,fun h=>(hK zRow R 0).2 ⟨h.1,Nat.zero_le _,h.2⟩⟩
 by_cases h3:k=3
 ·simp only[decide_eq_false h1,decide_eq_false h2,decide_eq_true h3,cnd_t,cnd_f,if_neg h1,if_neg h2,if_pos h3,joinX_bnd]
  exact Ans.bind0 (K:=fun z4=>K ([],(0,([],(0,([],(0,(false,([],(z4.1,(z4.2.1,z4.2.2))))))))))) hO fun R=>⟨(hK zRow [] R).1,fun h=>(hK zRow [] R).2 ⟨h,Nat.zero_le _,Nat.zero_le _⟩⟩
 ·simp only[decide_eq_false h1,decide_eq_false h2,decide_eq_false h3,cnd_f,if_neg h1,if_neg h2,if_neg h3,joinX_l]
  exact⟨(hK zRow [] 0).1,fun h=>(hK zRow [] 0).2 ⟨h,Nat.zero_le _,Nat.zero_le _⟩⟩
def zRec:Rec:=(0,(zRow,([],(0,(0,(0,0))))))
def recV (o:Option (Int×Int×Rec)):Int×Int×Rec×Bool:=match o with
 | none=>(0,(0,(zRec,false)))
 | some (g,p,r)=>(g,(p,(r,true)))
def zV:Int×Int×Rec×Bool:=(0,(0,(zRec,false)))
def finI (l:List UInt8) (x:Int×Int×Rec) (q:List UInt8):Int×Int×Rec×Bool:=match pWord q with
 | none=>zV
 | some (w,q')=>if w=(crc (l.take (l.length - q.length)):Nat)/\q'=[]/\recOk x.2.2=true then recV (some x) else zV
theorem Ans.start {α β:Type}{l:List UInt8}{z:β}{F:List UInt8×Int×Bool->Option (α×Int×Bool)}{p:List UInt8->Option (α×List UInt8)}{K:α×Int×Bool->Option β}{f:α->List UInt8->β}(hF:Reader l F p) (hK:∀ v,Ans l z True (fun s=>K (v,s)) (f v)):bnd (F (l,(0,false))) K=some (pb z p f l):=(Ans.bind0 hF hK).2 trivial 0 l (Rd.mk (l:=l) (k:=0) (by omega))
theorem pRow_len' (t:List UInt8) (v:Row) (q:List UInt8) (h:pRow t=some (v,q)):v.1.length<=60:=(rowOk_sm (rowB_of h).2).1
theorem Rd.take {l t:List UInt8}{b:Int}(h:Rd l b t):b.toNat=l.length - t.length/\lTake (nOf b - 0) l=l.take (l.length - t.length):=by
 have:=h.len
 have h0:=h.1
 have e:b.toNat=l.length - t.length:=by omega
 exact⟨e,by unfold lTake nOf;rw[e];rfl⟩
theorem finI_some {l q q':List UInt8}{w:Int}{x:Int×Int×Rec}(h:pWord q=some (w,q')):finI l x q=if w=(crc (l.take (l.length - q.length)):Nat)/\q'=[]/\recOk x.2.2=true then recV (some x) else zV:=by
 unfold finI;rw[h]
theorem finI_none {l q:List UInt8}{x:Int×Int×Rec}(h:pWord q=none):finI l x q=zV:=by
 unfold finI;rw[h]
theorem i_GetRec0 {l:List UInt8}(hl:l.length<=1048576000):F_i_GetRec l=some (ansRec zV pRow (finI l) l):=by
 unfold F_i_GetRec ansRec
 refine Ans.start (ri_word hl) fun gen=>?_
 dsimp only
 refine Ans.bind0 (ri_word hl) fun place=>?_
 dsimp only
 refine Ans.bind0 (ri_one hl) fun k=>?_
 dsimp only
 refine Ans.body (ri_row hl) (ri_text hl) (ri_one hl) pRow_len' fun R key n=>?_
 dsimp only
 refine Ans.bind0 (ri_one hl) fun who=>?_
 dsimp only
 refine Ans.bind0 (ri_one hl) fun code=>?_
 dsimp only
 refine Ans.bind0 (ri_word hl) fun seq=>?_
 dsimp only
 refine⟨fun b=>?_,fun hP b q h=>?_⟩
 ·obtain⟨v,c,e⟩:=(ri_word hl).bad b
  unfold F_i_scan_sum
  simp only[e,bnd_s,bNot_t,cnd_f,bNot_f,cnd_t];rfl
 ·have hb:=h.len
  have h0:=h.1
  have e6:F_i_RecOk (k,((R.1,((R.2.1.1,R.2.1.2),((R.2.2.1.1,R.2.2.1.2),(R.2.2.2.1,R.2.2.2.2)))),(key,(n,(who,(seq,code))))))=some (recOk (k,R,key,n,who,seq,code)):=i_RecOk (r:=(k,R,key,n,who,seq,code)) (by have:=hP.2.1;simp only;omega) (by have:=hP.2.2;simp only;omega)
  have hw:=(ri_word hl).good h
  show _=some (finI l (gen,place,k,R,key,n,who,seq,code) q)
  unfold F_i_scan_sum
  cases hp:pWord q with
  | none =>
   rw[hp] at hw
   obtain⟨v,c,e⟩:=hw
   simp only[e,bnd_s,bNot_t,cnd_f,bNot_f,cnd_t,finI_none hp];rfl
  | some u =>
   obtain⟨w,q'⟩:=u
   rw[hp] at hw
   obtain⟨c,e,r⟩:=hw
   have hc:=r.len
   rw[finI_some hp]
   simp only[e,bnd_s,bNot_f,cnd_t]
   rw[show within 0 b (lLen l)=true from decide_eq_true (by simp only[lLen_def];omega),chk_t,(h.take).2,i_Sum (by rw[List.length_take];omega),bnd_s]
   by_cases hs:w=((crc (l.take (l.length - q.length)):Nat):Int)
   ·rw[iEq_d,decide_eq_true hs,cnd_t]
    simp only[bnd_s,iEq_d,e6]
    by_cases hq:q'=[]
    ·rw[show decide (c=lLen l)=true from decide_eq_true (by simp only[lLen_def];rw[hq] at hc;simp only[List.length_nil] at hc;omega),bNot_t,cnd_f]
     cases hk:recOk (k,R,key,n,who,seq,code) with
     | true=>rw[if_pos ⟨hs,hq,rfl⟩];rfl
     | false=>rw[if_neg (fun h=>by cases h.2.2)];rfl
    ·rw[show decide (c=lLen l)=false from decide_eq_false (by
      simp only[lLen_def]
      have:q'.length≠0:=fun h=>hq (List.eq_nil_of_length_eq_zero h)
      omega),bNot_f,cnd_t,if_neg (fun h=>hq h.2.1)];rfl
   ·rw[iEq_d,decide_eq_false hs,cnd_f]
    simp only[bnd_s,bNot_f,cnd_t]
    rw[if_neg (fun h=>hs h.1)];rfl
def finS (l t:List UInt8) (x:Int×Int×Rec) (q:List UInt8):Int×Int×Rec×Bool:=if q=[]/\l.drop (l.length - 2)=wordB (crc t:Nat)/\recOk x.2.2=true then recV (some x) else zV
theorem wordB_inj {m n:Int}(h0:0<=m) (h1:m<65536) (k0:0<=n) (k1:n<65536) (h:wordB m=wordB n):m=n:=by
 have a:=pWord_put h0 h1 []
 have b:=pWord_put k0 k1 []
 rw[h,b] at a
 simp only[Option.some.injEq,Prod.mk.injEq,and_true] at a
 exact a.symm
theorem s_GetRec0 {l:List UInt8}(hl:l.length<=1048576000) (h2:2<=l.length):F_s_GetRec l=some (ansRec zV pRow0 (finS l (l.take (l.length - 2))) (l.take (l.length - 2))):=by
 have e2:iSub .i64 (lLen l) 2=((l.length - 2:Nat):Int):=by
  rw[iSub_ok (by simp only[lLen_def];omega) (by simp only[lLen_def];omega)];simp only[lLen_def];omega
 have et:lTake (nOf ((l.length - 2:Nat):Int) - 0) l=l.take (l.length - 2):=rfl
 have ht:(l.take (l.length - 2)).length=l.length - 2:=by rw[List.length_take];omega
 have ht2:(l.take (l.length - 2)).length<=1048576000:=by omega
 have hd:(l.drop (l.length - 2)).length=2:=by rw[List.length_drop];omega
 obtain⟨w,q0,hw⟩:∃ w q0,pWord (l.drop (l.length - 2))=some (w,q0):=by
  match l.drop (l.length - 2),hd with
  | [x,y],_=>exact⟨_,_,rfl⟩
 obtain⟨ew,w0,w1⟩:=wordB_of hw
 have eq0:q0=[]:=by
  have:=congrArg List.length ew
  rw[hd,List.length_append,wordB_len] at this
  exact List.eq_nil_of_length_eq_zero (by omega)
 rw[eq0,List.append_nil] at ew
 have eg:F_s_GetW (l,((l.length - 2:Nat):Int))=some (w,(((l.length - 2:Nat):Int)+2,true)):=by
  rw[s_GetW hl,suf_n,hw]
 have es:F_s_Sum (l.take (l.length - 2))=some ((crc (l.take (l.length - 2)):Nat):Int):=s_Sum ht2
 unfold F_s_GetRec ansRec
 simp only[e2,et,eg,es]
 rw[iLt_n (by omega),cnd_f,show within 0 ((l.length - 2:Nat):Int) (lLen l)=true from decide_eq_true (by simp only[lLen_def];omega),chk_t]
 generalize hT:l.take (l.length - 2)=t at ht ht2
 refine Ans.start (rs_word ht2) fun gen=>?_
 dsimp only
 refine Ans.bind0 (rs_word ht2) fun place=>?_
 dsimp only
 refine Ans.bind0 (rs_one ht2) fun k=>?_
 dsimp only
 refine Ans.body (rs_row ht2) (rs_text ht2) (rs_one ht2) (fun _ _ _ h=>pRow_len h) fun R key n=>?_
 dsimp only
 refine Ans.bind0 (rs_one ht2) fun who=>?_
 dsimp only
 refine Ans.bind0 (rs_one ht2) fun code=>?_
 dsimp only
 refine Ans.bind0 (rs_word ht2) fun seq=>?_
 dsimp only
 refine⟨fun b=>?_,fun hP b q h=>?_⟩
 ·simp only[bnd_s,cnd_t];rfl
 ·have hb:=h.len
  have e6:F_s_RecOk (k,((R.1,((R.2.1.1,R.2.1.2),((R.2.2.1.1,R.2.2.1.2),(R.2.2.2.1,R.2.2.2.2)))),(key,(n,(who,(seq,code))))))=some (recOk (k,R,key,n,who,seq,code)):=s_RecOk (r:=(k,R,key,n,who,seq,code)) (by have:=hP.2.1;simp only;omega) (by have:=hP.2.2;simp only;omega)
  show _=some (finS l t (gen,place,k,R,key,n,who,seq,code) q)
  simp only[bnd_s,cnd_f,chk_t]
  by_cases hq:q=[]
  ·have:b=((l.length - 2:Nat):Int):=by rw[hq] at hb;simp only[List.length_nil] at hb;omega
   rw[this,iNe_r,cnd_f]
   have hc:=crc_lt t
   by_cases hs:w=((crc t:Nat):Int)
   ·rw[hs,iNe_r,cnd_f,e6,bnd_s]
    unfold finS
    cases hk:recOk (k,R,key,n,who,seq,code) with
    | true=>rw[if_pos ⟨hq,by rw[ew,hs],rfl⟩];rfl
    | false=>rw[if_neg (fun h=>by cases h.2.2)];rfl
   ·rw[iNe_y hs,cnd_t]
    unfold finS
    rw[if_neg (fun h=>hs (wordB_inj w0 w1 (by omega) (by omega) (by rw[<-ew];exact h.2.1)))];rfl
  ·have:b≠((l.length - 2:Nat):Int):=fun hh=>hq (List.eq_nil_of_length_eq_zero (by omega))
   rw[iNe_y this,cnd_t]
   unfold finS
   rw[if_neg (fun h=>hq h.1)];rfl
def pBodyG (pr:List UInt8->Option (Row×List UInt8)) (k:Int) (l:List UInt8):Option ((Row×List UInt8×Int)×List UInt8) :=
 if k=1 then (match pr l with
  | none=>none
  | some (r,l)=>some ((r,[],0),l))
 else if k=2 then (match pText l with
  | none=>none
  | some (s,l)=>some ((([],(0,[]),(0,[]),0,false),s,0),l))
 else if k=3 then (match pOne l with
  | none=>none
  | some (n,l)=>some ((([],(0,[]),(0,[]),0,false),[],n),l))
 else some ((([],(0,[]),(0,[]),0,false),[],0),l)
def pRecG (pr:List UInt8->Option (Row×List UInt8)) (l:List UInt8):Option ((Int×Int×Rec)×List UInt8):=match pWord l with
 | none=>none
 | some (gen,l)=>match pWord l with
  | none=>none
  | some (place,l)=>match pOne l with
   | none=>none
   | some (k,l)=>match pBodyG pr k l with
    | none=>none
    | some ((R,key,n),l)=>match pOne l with
     | none=>none
     | some (who,l)=>match pOne l with
      | none=>none
      | some (code,l)=>match pWord l with
       | none=>none
       | some (seq,l)=>some ((gen,place,(k,R,key,n,who,seq,code)),l)
theorem pRecG_pRow:pRecG pRow=pRec:=rfl
theorem ansBody_p {β:Type}(z:β) (pr:List UInt8->Option (Row×List UInt8)) (k:Int) (g:Row->List UInt8->Int->List UInt8->β) (t:List UInt8):ansBody z pr k g t=match pBodyG pr k t with
  | none=>z
  | some ((R,key,n),q)=>g R key n q:=by
 unfold ansBody pBodyG
 by_cases h1:k=1
 ·simp only[if_pos h1,pb];cases pr t<;>rfl
 by_cases h2:k=2
 ·simp only[if_neg h1,if_pos h2,pb];cases pText t<;>rfl
 by_cases h3:k=3
 ·simp only[if_neg h1,if_neg h2,if_pos h3,pb];cases pOne t<;>rfl
 ·simp only[if_neg h1,if_neg h2,if_neg h3];rfl
theorem pb_none {α β:Type}{z:β}{p:List UInt8->Option (α×List UInt8)}{f:α->List UInt8->β}{t:List UInt8}(h:p t=none):pb z p f t=z:=by unfold pb;rw[h]
theorem pb_some {α β:Type}{z:β}{p:List UInt8->Option (α×List UInt8)}{f:α->List UInt8->β}{t q:List UInt8}{v:α}(h:p t=some (v,q)):pb z p f t=f v q:=by unfold pb;rw[h]
theorem ansRec_p {β:Type}(z:β) (pr:List UInt8->Option (Row×List UInt8)) (fin:Int×Int×Rec->List UInt8->β) (t:List UInt8):ansRec z pr fin t=match pRecG pr t with
  | none=>z
  | some (x,q)=>fin x q:=by
 unfold ansRec pRecG
 cases h1:pWord t with
 | none=>rw[pb_none h1]
 | some v =>
  obtain⟨gen,t1⟩:=v
  rw[pb_some h1]
  simp only
  cases h2:pWord t1 with
  | none=>rw[pb_none h2]
  | some v =>
   obtain⟨place,t2⟩:=v
   rw[pb_some h2]
   simp only
   cases h3:pOne t2 with
   | none=>rw[pb_none h3]
   | some v =>
    obtain⟨k,t3⟩:=v
    rw[pb_some h3]
    simp only[ansBody_p]
    cases pBodyG pr k t3 with
    | none=>rfl
    | some v =>
     obtain⟨⟨R,key,n⟩,t4⟩:=v
     simp only
     cases h4:pOne t4 with
     | none=>rw[pb_none h4]
     | some v =>
      obtain⟨who,t5⟩:=v
      rw[pb_some h4]
      simp only
      cases h5:pOne t5 with
      | none=>rw[pb_none h5]
      | some v =>
       obtain⟨code,t6⟩:=v
       rw[pb_some h5]
       simp only
       cases h6:pWord t6 with
       | none=>rw[pb_none h6]
       | some v=>rw[pb_some h6]
theorem wordB_iff {w:Int}{c:Nat}(w0:0<=w) (w1:w<65536) (hc:c<65536):wordB w=wordB (c:Int) ↔ w=c:=⟨wordB_inj w0 w1 (by omega) (by omega),fun h=>by rw[h]⟩
theorem getRec_of {l q:List UInt8}{x:Int×Int×Rec}(h:pRec l=some (x,q)):getRec l=if q=wordB (crc (l.take (l.length - 2)))/\q.length=2/\recOk x.2.2=true then some x else none:=by
 unfold getRec;rw[h]
theorem getRec_no {l:List UInt8}(h:pRec l=none):getRec l=none:=by
 unfold getRec;rw[h]
theorem i_GetRec {l:List UInt8}(hl:l.length<=1048576000):F_i_GetRec l=some (recV (getRec l)):=by
 rw[i_GetRec0 hl,ansRec_p,pRecG_pRow]
 cases hp:pRec l with
 | none=>rw[getRec_no hp];rfl
 | some v =>
  obtain⟨x,q⟩:=v
  rw[getRec_of hp]
  show some (finI l x q)=_
  congr 1
  cases hq:pWord q with
  | none =>
   rw[finI_none hq,if_neg]
   ·rfl
   ·rintro ⟨h1,h2,_⟩
    have:=pWord_put (n:=(crc (l.take (l.length - 2)):Nat)) (by omega) (by have:=crc_lt (l.take (l.length - 2));omega) []
    rw[List.append_nil,<-h1,hq] at this;cases this
  | some u =>
   obtain⟨w,q'⟩:=u
   rw[finI_some hq]
   obtain⟨e,w0,w1⟩:=wordB_of hq
   have hc:=crc_lt (l.take (l.length - 2))
   by_cases hq':q'=[]
   ·have e2:q=wordB w:=by rw[e,hq',List.append_nil]
    have e3:q.length=2:=by rw[e2];rfl
    have hi:=wordB_iff (c:=crc (l.take (l.length - 2))) w0 w1 hc
    rw[e3]
    by_cases h:w=((crc (l.take (l.length - 2)):Nat):Int)/\recOk x.2.2=true
    ·rw[if_pos ⟨h.1,hq',h.2⟩,if_pos ⟨by rw[e2];exact hi.2 h.1,rfl,h.2⟩]
    ·rw[if_neg (fun k=>h ⟨k.1,k.2.2⟩),if_neg (fun k=>h ⟨hi.1 (by rw[<-e2];exact k.1),k.2.2⟩)];rfl
   ·have e3:q.length≠2:=by
     have:q'.length≠0:=fun h=>hq' (List.eq_nil_of_length_eq_zero h)
     rw[e,List.length_append,wordB_len];omega
    rw[if_neg (fun k=>hq' k.2.1),if_neg (fun k=>e3 k.2.1)];rfl
theorem pBodyG_up {k n:Int}{t q:List UInt8}{R:Row}{key:List UInt8}(h:pBodyG pRow0 k t=some ((R,key,n),q)) (hk:bodyOk k R key n=true):pBodyG pRow k t=some ((R,key,n),q):=by
 unfold pBodyG at h ⊢
 by_cases h1:k=1
 ·rw[if_pos h1] at h ⊢
  cases hr:pRow0 t with
  | none=>rw[hr] at h;cases h
  | some v =>
   obtain⟨r,q1⟩:=v
   rw[hr] at h
   simp only[Option.some.injEq,Prod.mk.injEq] at h
   obtain⟨⟨rfl,rfl,rfl⟩,rfl⟩:=h
   unfold bodyOk at hk
   rw[if_pos h1] at hk
   simp only[Bool.and_eq_true] at hk
   rw[pRow_some hr,if_pos hk.1.1]
 ·rw[if_neg h1] at h ⊢;exact h
theorem pBodyG_dn {k:Int}{t q:List UInt8}{v:Row×List UInt8×Int}(h:pBodyG pRow k t=some (v,q)):pBodyG pRow0 k t=some (v,q):=by
 unfold pBodyG at h ⊢
 by_cases h1:k=1
 ·rw[if_pos h1] at h ⊢
  cases hr:pRow0 t with
  | none=>rw[pRow_none hr] at h;cases h
  | some w =>
   obtain⟨r,q1⟩:=w
   rw[pRow_some hr] at h
   by_cases hh:rowOk r=true
   ·rw[if_pos hh] at h;exact h
   ·rw[if_neg hh] at h;cases h
 ·rw[if_neg h1] at h ⊢;exact h
theorem pRecG_up {t q:List UInt8}{x:Int×Int×Rec}(h:pRecG pRow0 t=some (x,q)) (hk:recOk x.2.2=true):pRecG pRow t=some (x,q):=by
 unfold pRecG at h ⊢
 cases h1:pWord t with
 | none=>rw[h1] at h;cases h
 | some v =>
  obtain⟨gen,t1⟩:=v
  rw[h1] at h;simp only at h ⊢
  cases h2:pWord t1 with
  | none=>rw[h2] at h;cases h
  | some v =>
   obtain⟨place,t2⟩:=v
   rw[h2] at h;simp only at h ⊢
   cases h3:pOne t2 with
   | none=>rw[h3] at h;cases h
   | some v =>
    obtain⟨k,t3⟩:=v
    rw[h3] at h;simp only at h ⊢
    cases h4:pBodyG pRow0 k t3 with
    | none=>rw[h4] at h;cases h
    | some v =>
     obtain⟨⟨R,key,n⟩,t4⟩:=v
     rw[h4] at h;simp only at h
     have hb:bodyOk k R key n=true:=by
      split at h
      ·cases h
      split at h
      ·cases h
      split at h
      ·cases h
      simp only[Option.some.injEq,Prod.mk.injEq] at h
      obtain⟨rfl,_⟩:=h
      simp only[recOk,Bool.and_eq_true] at hk
      exact hk.1
     rw[pBodyG_up h4 hb]
     exact h
theorem pRecG_dn {t q:List UInt8}{x:Int×Int×Rec}(h:pRecG pRow t=some (x,q)):pRecG pRow0 t=some (x,q):=by
 unfold pRecG at h ⊢
 cases h1:pWord t with
 | none=>rw[h1] at h;cases h
 | some v =>
  obtain⟨gen,t1⟩:=v
  rw[h1] at h;simp only at h ⊢
  cases h2:pWord t1 with
  | none=>rw[h2] at h;cases h
  | some v =>
   obtain⟨place,t2⟩:=v
   rw[h2] at h;simp only at h ⊢
   cases h3:pOne t2 with
   | none=>rw[h3] at h;cases h
   | some v =>
    obtain⟨k,t3⟩:=v
    rw[h3] at h;simp only at h ⊢
    cases h4:pBodyG pRow k t3 with
    | none=>rw[h4] at h;cases h
    | some v =>
     rw[h4] at h
     rw[pBodyG_dn h4]
     exact h
theorem s_GetRec {l:List UInt8}(hl:l.length<=1048576000):F_s_GetRec l=some (recV (getRec l)):=by
 by_cases h2:2<=l.length
 ·rw[s_GetRec0 hl h2,ansRec_p]
  congr 1
  have hd:(l.drop (l.length - 2)).length=2:=by rw[List.length_drop];omega
  have hsp:l.take (l.length - 2)++l.drop (l.length - 2)=l:=List.take_append_drop _ _
  have up:∀ x,pRecG pRow0 (l.take (l.length - 2))=some (x,[])->recOk x.2.2=true->pRec l=some (x,l.drop (l.length - 2)):=fun x hp hk=>by
   have h1:=pRecG_up hp hk
   rw[pRecG_pRow] at h1
   obtain⟨e,a,b,c,d⟩:=recB_of h1
   rw[List.append_nil] at e
   have:=pRec_put hk a b c d (l.drop (l.length - 2))
   rw[<-e,hsp] at this;exact this
  have dn:∀ x q,pRec l=some (x,q)->q.length=2->recOk x.2.2=true->pRecG pRow0 (l.take (l.length - 2))=some (x,[]):=fun x q hp hq hk=>by
   obtain⟨e,a,b,c,d⟩:=recB_of hp
   have e1:l.take (l.length - 2)=recB x.1 x.2.1 x.2.2:=by
    have:l.length - 2=(recB x.1 x.2.1 x.2.2).length:=by
     have:=congrArg List.length e
     rw[List.length_append,hq] at this;omega
    rw[this]
    conv=>lhs;arg 2;rw[e]
    rw[List.take_left]
   have:=pRec_put hk a b c d []
   rw[List.append_nil,<-e1] at this
   exact pRecG_dn this
  by_cases hg:∃ x,getRec l=some x
  ·obtain⟨x,hx⟩:=hg
   cases hp:pRec l with
   | none=>rw[getRec_no hp] at hx;cases hx
   | some v =>
    obtain⟨y,q⟩:=v
    rw[getRec_of hp] at hx
    by_cases hc:q=wordB (crc (l.take (l.length - 2)):Nat)/\q.length=2/\recOk y.2.2=true
    ·rw[getRec_of hp,if_pos hc]
     rw[dn y q hp hc.2.1 hc.2.2]
     have e2:=up y (dn y q hp hc.2.1 hc.2.2) hc.2.2
     rw[hp] at e2
     simp only[Option.some.injEq,Prod.mk.injEq,true_and] at e2
     simp only[finS]
     rw[if_pos ⟨trivial,by rw[<-e2];exact hc.1,hc.2.2⟩]
    ·rw[if_neg hc] at hx;cases hx
  ·have hn:getRec l=none:=by
    cases h:getRec l with
    | none=>rfl
    | some x=>exact (hg ⟨x,h⟩).elim
   rw[hn]
   cases hp:pRecG pRow0 (l.take (l.length - 2)) with
   | none=>rfl
   | some v =>
    obtain⟨x,q⟩:=v
    simp only[finS]
    rw[if_neg]
    ·rfl
    ·rintro ⟨rfl,hw,hk⟩
     have h1:=getRec_of (up x hp hk)
     rw[if_pos ⟨hw,hd,hk⟩,hn] at h1;cases h1
 ·have e2:iSub .i64 (lLen l) 2=(l.length:Int) - 2:=iSub_ok (by simp only[lLen_def];omega) (by simp only[lLen_def];omega)
  unfold F_s_GetRec
  simp only[e2]
  rw[iLt_y (by omega),cnd_t]
  have:getRec l=none:=getRec_no (by unfold pRec;rw[pWord_short (by omega)])
  rw[this];rfl
theorem getRec_sm (l:List UInt8):smC 60 (recV (getRec l)).2.2.1:=by
 cases h:getRec l with
 | none=>exact⟨⟨by decide,by decide,by decide⟩,by decide⟩
 | some x =>
  have hk:=(putRec_of h).2.1
  obtain⟨g,p,k,R,key,n,w,sq,cd⟩:=x
  simp only[recOk,Bool.and_eq_true] at hk
  have hb:=hk.1
  show smR 60 R/\key.length<=60
  unfold bodyOk at hb
  have z:noRow R=true->smR 60 R:=fun h=>by rw[noRow_eq h];exact⟨by decide,by decide,by decide⟩
  have e:key.isEmpty=true->key.length<=60:=fun h=>by rw[List.isEmpty_iff.1 h];exact Nat.zero_le _
  split at hb
  ·simp only[Bool.and_eq_true] at hb;exact⟨rowOk_sm hb.1.1,e hb.1.2⟩
  split at hb
  ·simp only[Bool.and_eq_true] at hb;exact⟨z hb.1.1,by have:=(nameOk_len hb.1.2).2;omega⟩
  split at hb
  ·simp only[Bool.and_eq_true] at hb;exact⟨z hb.1.1,e hb.1.2⟩
  split at hb
  ·simp only[Bool.and_eq_true] at hb;exact⟨z hb.1.1,e hb.1.2⟩
  ·cases hb
theorem xor_cancel {a b c:Nat}(h:a ^^^ c=b ^^^ c):a=b:=by
 have:(a ^^^ c) ^^^ c=(b ^^^ c) ^^^ c:=by rw[h]
 rwa [Nat.xor_assoc,Nat.xor_self,Nat.xor_zero,Nat.xor_assoc,Nat.xor_self,Nat.xor_zero] at this
theorem crc1_inj {x y:Nat}(h:crc1 x=crc1 y):x=y:=by
 have odd:∀ a b:Nat,(2*a) ^^^ 69665≠2*b:=by
  intro a b e
  have h1:((2*a) ^^^ 69665).testBit 0=(2*b).testBit 0:=by rw[e]
  rw[Nat.testBit_xor,Nat.testBit_zero,Nat.testBit_zero,Nat.testBit_zero] at h1
  simp [Nat.mul_mod_right] at h1
 unfold crc1 at h
 split at h<;>split at h
 ·have:=xor_cancel h;omega
 ·exact (odd _ _ h).elim
 ·exact (odd _ _ h.symm).elim
 ·omega
theorem crcN_inj {n:Nat}:∀ {x y:Nat},crcN n x=crcN n y->x=y:=by
 induction n with
 | zero=>intro x y h;exact h
 | succ n ih=>intro x y h;exact crc1_inj (ih h)
theorem crcB_inj {x y:Nat}{b:UInt8}(h:crcB x b=crcB y b):x=y:=xor_cancel (crcN_inj h)
theorem crcB_byte {x:Nat}{b c:UInt8}(h:crcB x b=crcB x c):b=c:=by
 have h1:=crcN_inj h
 rw[Nat.xor_comm x,Nat.xor_comm x] at h1
 have:=xor_cancel h1
 exact UInt8.toNat_inj.1 (by omega)
theorem crc_fold_ne {l:List UInt8}:∀ {x y:Nat},x≠y->l.foldl crcB x≠l.foldl crcB y:=by
 induction l with
 | nil=>intro x y h;exact h
 | cons b l ih =>
  intro x y h
  rw[List.foldl_cons,List.foldl_cons]
  refine ih ?_
  intro e
  exact h (crcB_inj e)
theorem crc_set {l:List UInt8}{i:Nat}{b:UInt8}(hi:i<l.length) (hb:b≠l[i]):crc (l.set i b)≠crc l:=by
 have e1:l.set i b=l.take i++b::l.drop (i+1):=List.set_eq_take_append_cons_drop.trans (by rw[if_pos hi])
 have e2:l=l.take i++l[i]::l.drop (i+1):=by rw[List.getElem_cons_drop,List.take_append_drop]
 rw[e1]
 conv=>rhs;rw[e2]
 simp only[crc,List.foldl_append,List.foldl_cons]
 exact crc_fold_ne fun e=>hb (crcB_byte e)
end
end Go.Vs
