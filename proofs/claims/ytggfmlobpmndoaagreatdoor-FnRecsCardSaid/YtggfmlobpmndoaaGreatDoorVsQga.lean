import Derived.Test.YtggfmlobpmndoaaGreatDoorVsW5
import Derived.Test.YtggfmlobpmndoaaGreatDoorVsQg9
set_option linter.all false
namespace Go.Vs
noncomputable section
def suf (l:List UInt8) (a:Int):List UInt8:=if a<0 then [] else l.drop a.toNat
theorem suf_n (l:List UInt8) (k:Nat):suf l (k:Int)=l.drop k:=by
 unfold suf;rw[if_neg (by omega)];rfl
theorem suf_neg {l:List UInt8}{a:Int}(h:a<0):suf l a=[]:=if_pos h
theorem pWord_short {t:List UInt8}(h:t.length<2):pWord t=none:=by
 match t,h with
 | [],_=>rfl
 | [_],_=>rfl
theorem word_or (x y:UInt8):iOr .i64 (iShl .i64 (iConv .i64 (y2i x)) 8) (iConv .i64 (y2i y))=((x.toNat*256+y.toNat:Nat):Int):=by
 have h0:=y_lt x
 have h1:=y_lt y
 simp only[y2i_n]
 rw[iConv_s (k:=.i64) (by show _<2 ^ 63;omega),iConv_s (k:=.i64) (by show _<2 ^ 63;omega)]
 rw[show iShl .i64 (x.toNat:Int) 8=((x.toNat*2 ^ 8:Nat):Int) from iShl_s (k:=.i64) (s:=8) (by decide) (by show _<2 ^ 63;omega)]
 rw[orc (c:=x.toNat*2 ^ 8) (q:=x.toNat) (j:=8) rfl (by omega) (by omega) (by omega)]
theorem drop2 {l:List UInt8}{k:Nat}(h:k+2<=l.length):l.drop k=l[k]'(by omega)::l[k+1]'(by omega)::l.drop (k+2):=by
 rw[List.drop_eq_getElem_cons (by omega),List.drop_eq_getElem_cons (by omega)]
theorem s_GetW {l:List UInt8}{a:Int}(hl:l.length<=1048576000):F_s_GetW (l,a)=some (match pWord (suf l a) with | none=>(0,(0,false)) | some (n,_)=>(n,(a+2,true))):=by
 unfold F_s_GetW
 have e:iSub .i64 (lLen l) 2=(l.length:Int) - 2:=iSub_ok (by simp only[lLen_def];omega) (by simp only[lLen_def];omega)
 simp only[e,s_In,bnd_s]
 by_cases h:0<=a/\a<=(l.length:Int) - 2
 ·obtain⟨k,rfl⟩:=Int.eq_ofNat_of_zero_le h.1
  rw[decide_eq_true h,bNot_t,cnd_f,idx_at (show k<l.length by omega),bnd_s,iAdd_ok (by omega) (by omega),show (k:Int)+1=((k+1:Nat):Int) by omega,idx_at (show k+1<l.length by omega),bnd_s,word_or,iAdd_ok (by omega) (by omega)]
  rw[suf_n,drop2 (by omega)]
  rfl
 ·rw[decide_eq_false h,bNot_f,cnd_t]
  by_cases h0:a<0
  ·rw[suf_neg h0];rfl
  ·obtain⟨k,rfl⟩:=Int.eq_ofNat_of_zero_le (show 0<=a by omega)
   rw[suf_n,pWord_short (by rw[List.length_drop];omega)]
theorem i_GetW {l:List UInt8}{a:Int}(hl:l.length<=1048576000):F_i_GetW (l,a)=some (match pWord (suf l a) with | none=>(0,(0,false)) | some (n,_)=>(n,(a+2,true))):=by
 unfold F_i_GetW
 have e:iSub .i64 (lLen l) 2=(l.length:Int) - 2:=iSub_ok (by simp only[lLen_def];omega) (by simp only[lLen_def];omega)
 simp only[e]
 by_cases h0:a<0
 ·rw[iLt_y h0,cnd_t,suf_neg h0];rfl
 rw[iLt_n (by omega),cnd_f]
 obtain⟨k,rfl⟩:=Int.eq_ofNat_of_zero_le (show 0<=a by omega)
 by_cases h:(k:Int)<=(l.length:Int) - 2
 ·rw[iGt_n (by omega),cnd_f,idx_at (show k<l.length by omega),bnd_s,iAdd_ok (by omega) (by omega),show (k:Int)+1=((k+1:Nat):Int) by omega,idx_at (show k+1<l.length by omega),bnd_s,word_or,iAdd_ok (by omega) (by omega)]
  rw[suf_n,drop2 (by omega)]
  rfl
 ·rw[iGt_y (by omega),cnd_t,suf_n,pWord_short (by rw[List.length_drop];omega)]
theorem text_f {F:List UInt8×Int->Option (Int×Int×Bool)}{l:List UInt8}{a:Int}(hl:l.length<=1048576000) (hF:F (l,a)=some (match pWord (suf l a) with | none=>(0,(0,false)) | some (n,_)=>(n,(a+2,true)))):(bnd (F (l,a)) (fun z1=>(cnd (bNot
 z1.2.2) (some ([],(0,false))) (cnd (iGt z1.1 60) (some ([],(0,false))) (cnd (iGt z1.1 (iSub .i64 (lLen l) z1.2.1)) (some ([],(0,false))) (chk (within z1.2.1 (iAdd .i64
 z1.2.1 z1.1) (lLen l)) (some ((lTake ((nOf (iAdd .i64 z1.2.1 z1.1)) - (nOf z1.2.1)) (lDrop (nOf z1.2.1) l)),((iAdd .i64 z1.2.1 z1.1),true)))))))):Option (List UInt8×Int×Bool))=some (match pText (suf l a) with | none=>([],(0,false)) | some (s,_)=>(s,(a+2+s.length,true))):=by
 rw[hF]
 cases hp:pWord (suf l a) with
 | none=>unfold pText;rw[hp];rfl
 | some v =>
  obtain⟨n,q⟩:=v
  have h0:¬ a<0:=fun h=>by rw[suf_neg h] at hp;cases hp
  obtain⟨k,rfl⟩:=Int.eq_ofNat_of_zero_le (show 0<=a by omega)
  obtain⟨e,n0,n1⟩:=wordB_of hp
  rw[suf_n] at e
  have hk:k+2+q.length=l.length:=by
   have:=congrArg List.length e
   simp only[List.length_drop,List.length_append,wordB,List.length_cons,List.length_nil] at this
   omega
  have hq:q=l.drop (k+2):=by
   have:=congrArg (List.drop 2) e
   rw[List.drop_drop] at this
   rw[this];rfl
  unfold pText
  simp only[hp,bnd_s,bNot_t,cnd_f]
  by_cases h6:n<=60
  ·rw[iGt_n (by omega),cnd_f,iSub_ok (by simp only[lLen_def];omega) (by simp only[lLen_def];omega)]
   by_cases hn:n<=q.length
   ·rw[iGt_n (by simp only[lLen_def];omega),cnd_f,if_pos ⟨h6,hn⟩,iAdd_ok (by omega) (by omega),show within ((k:Int)+2) ((k:Int)+2+n) (lLen l)=true from decide_eq_true (by simp only[lLen_def];omega),chk_t]
    have e1:nOf ((k:Int)+2+n) - nOf ((k:Int)+2)=n.toNat:=by unfold nOf;omega
    have e2:nOf ((k:Int)+2)=k+2:=by unfold nOf;omega
    have e3:((q.take n.toNat).length:Int)=n:=by rw[List.length_take];omega
    rw[e1,e2]
    simp only[lTake,lDrop,<-hq,e3]
   ·rw[iGt_y (by simp only[lLen_def];omega),cnd_t,if_neg (by omega)]
  ·rw[iGt_y (by omega),cnd_t,if_neg (by omega)]
theorem s_GetText {l:List UInt8}{a:Int}(hl:l.length<=1048576000):F_s_GetText (l,a)=some (match pText (suf l a) with | none=>([],(0,false)) | some (s,_)=>(s,(a+2+s.length,true))):=text_f hl (s_GetW hl)
theorem i_GetText {l:List UInt8}{a:Int}(hl:l.length<=1048576000):F_i_GetText (l,a)=some (match pText (suf l a) with | none=>([],(0,false)) | some (s,_)=>(s,(a+2+s.length,true))):=text_f hl (i_GetW hl)
def Rd (l:List UInt8) (a:Int) (t:List UInt8):Prop:=0<=a/\a<=l.length/\suf l a=t
theorem Rd.nat {l t:List UInt8}{a:Int}(h:Rd l a t):∃ k:Nat,a=k/\k<=l.length/\t=l.drop k:=by
 obtain⟨h0,h1,h2⟩:=h
 obtain⟨k,rfl⟩:=Int.eq_ofNat_of_zero_le h0
 exact⟨k,rfl,by omega,by rw[<-h2,suf_n]⟩
theorem Rd.mk {l:List UInt8}{k:Nat}(h:k<=l.length):Rd l k (l.drop k):=⟨by omega,by omega,suf_n l k⟩
theorem Rd.len {l t:List UInt8}{a:Int}(h:Rd l a t):a+t.length=l.length:=by
 obtain⟨k,rfl,h1,rfl⟩:=h.nat
 rw[List.length_drop];omega
theorem Rd.app {l u t:List UInt8}{a:Int}(h:Rd l a (u++t)):Rd l (a+u.length) t:=by
 have hl:=h.len
 obtain⟨k,rfl,h1,h2⟩:=h.nat
 have:t=l.drop (k+u.length):=by
  rw[<-List.drop_drop,<-h2,List.drop_left]
 rw[this,show (k:Int)+(u.length:Int)=((k+u.length:Nat):Int) by omega]
 refine Rd.mk ?_
 rw[List.length_append] at hl;omega
def RdR {α:Type}(l:List UInt8) (z:α) (o:Option (α×Int×Bool)) (p:Option (α×List UInt8)) (a:Int):Prop:=match p with
 | none=>o=some (z,(a,true))
 | some (v,q)=>∃ b,o=some (v,(b,false))/\Rd l b q
theorem textB_n {s:List UInt8}(h:s.length<=60):((textB s).length:Int)=2+s.length:=by
 unfold textB;rw[if_pos h];simp [wordB];omega
theorem text_rd {F:List UInt8×Int->Option (List UInt8×Int×Bool)}{l t:List UInt8}{a:Int}(hF:F (l,a)=some (match pText (suf l a) with | none=>([],(0,false)) | some (s,_)=>(s,(a+2+s.length,true)))) (h:Rd l a t) :
  RdR l [] (bnd (F (l,a)) (fun z1=>(cnd false (some ([],(a,true))) (cnd (bNot z1.2.2) (some ([],(a,true))) (some (z1.1,(z1.2.1,false))))))) (pText t) a:=by
 rw[hF,h.2.2]
 cases hp:pText t with
 | none=>rfl
 | some v =>
  obtain⟨s,q⟩:=v
  obtain⟨e,hs⟩:=textB_of hp
  subst e
  refine⟨_,rfl, ?_⟩
  have:=h.app
  rw[textB_n hs] at this
  show Rd l (a+2+(s.length:Int)) q
  rw[show a+2+(s.length:Int)=a+(2+s.length) by omega];exact this
theorem s_text {l t:List UInt8}{a:Int}(hl:l.length<=1048576000) (h:Rd l a t):RdR l [] (F_s_l11Text (l,(a,false))) (pText t) a:=text_rd (F:=F_s_GetText) (s_GetText hl) h
theorem i_text {l t:List UInt8}{a:Int}(hl:l.length<=1048576000) (h:Rd l a t):RdR l [] (F_i_scan_text (l,(a,false))) (pText t) a:=text_rd (F:=F_i_GetText) (i_GetText hl) h
theorem s_textB {l:List UInt8}{a:Int}(hl:l.length<=1048576000):F_s_l11Text (l,(a,true))=some ([],(a,true)):=by
 unfold F_s_l11Text;simp only[s_GetText hl,bnd_s];rfl
theorem i_textB {l:List UInt8}{a:Int}(hl:l.length<=1048576000):F_i_scan_text (l,(a,true))=some ([],(a,true)):=by
 unfold F_i_scan_text;simp only[i_GetText hl,bnd_s];rfl
theorem s_one {l t:List UInt8}{a:Int}(hl:l.length<=1048576000) (h:Rd l a t):RdR l 0 (F_s_l11Byte (l,(a,false))) (pOne t) a:=by
 have hn:=h.len
 unfold F_s_l11Byte
 cases t with
 | nil =>
  show _=_
  simp only[cnd_f]
  simp only[List.length_nil] at hn
  rw[iGe_y (by simp only[lLen_def];omega)];rfl
 | cons x q =>
  simp only[List.length_cons] at hn
  have hr:Rd l (a+1) q:=(show Rd l a ([x]++q) from h).app
  refine⟨a+1, ?_,hr⟩
  obtain⟨k,rfl,h1,h2⟩:=h.nat
  have hk:k<l.length:=by omega
  rw[List.drop_eq_getElem_cons hk] at h2
  have hx:x=l[k]:=(List.cons.inj h2).1
  simp only[cnd_f]
  rw[iGe_n (by simp only[lLen_def];omega),cnd_f,iAdd_ok (by omega) (by omega),iSub_ok (by omega) (by omega),show (k:Int)+1 - 1=k by omega,idx_at hk,bnd_s,<-hx,y2i_n,iConv_s (k:=.i64) (by have:=y_lt x;show _<2 ^ 63;omega)]
theorem s_oneB {l:List UInt8}{a:Int}:F_s_l11Byte (l,(a,true))=some (0,(a,true)):=rfl
theorem i_one {l t:List UInt8}{a:Int}(hl:l.length<=1048576000) (h:Rd l a t):RdR l 0 (F_i_scan_one (l,(a,false))) (pOne t) a:=by
 have e:F_i_scan_one (l,(a,false))=F_s_l11Byte (l,(a,false)):=by
  unfold F_i_scan_one F_s_l11Byte
  simp only[cnd_f]
  rw[iLt_n h.1,cnd_f]
 rw[e];exact s_one hl h
theorem i_oneB {l:List UInt8}{a:Int}:F_i_scan_one (l,(a,true))=some (0,(a,true)):=rfl
def RdW {α:Type}(l:List UInt8) (o:Option (α×Int×Bool)) (p:Option (α×List UInt8)):Prop:=match p with
 | none=>∃ v b,o=some (v,(b,true))
 | some (v,q)=>∃ b,o=some (v,(b,false))/\Rd l b q
theorem cell_rd {F:List UInt8×Int×Bool->Option (Int×Int×Bool)}{G:List UInt8×Int×Bool->Option (List UInt8×Int×Bool)}{l t:List UInt8}{a:Int}(hF:∀ {a:Int}{t:List UInt8},Rd l a t->RdR l 0 (F (l,(a,false))) (pOne t) a) (hG:∀ {a:Int}{t:List UInt8},Rd l a t->RdR l [] (G (l,(a,false))) (pText t) a) (hB:∀ {a:Int},G (l,(a,true))=some ([],(a,true))) (h:Rd l a t) :
  RdW l (bnd (F (l,(a,false))) (fun z1=>(bnd (G (l,(z1.2.1,z1.2.2))) (fun z2=>(some ((z1.1,z2.1),(z2.2.1,z2.2.2))))))) (pCell t):=by
 have h1:=hF h
 unfold pCell
 cases hp:pOne t with
 | none =>
  rw[hp] at h1
  rw[show F (l,(a,false))=some (0,(a,true)) from h1]
  exact⟨(0,[]),a,by simp only[bnd_s,hB]⟩
 | some v =>
  obtain⟨n,q⟩:=v
  rw[hp] at h1
  obtain⟨b,h2,h3⟩:=h1
  have h4:=hG h3
  rw[h2]
  simp only[bnd_s]
  cases hq:pText q with
  | none =>
   rw[hq] at h4
   rw[show G (l,(b,false))=some ([],(b,true)) from h4]
   exact⟨(n,[]),b,rfl⟩
  | some w =>
   obtain⟨u,r⟩:=w
   rw[hq] at h4
   obtain⟨c,h5,h6⟩:=h4
   rw[h5]
   exact⟨c,rfl,h6⟩
theorem s_cell {l t:List UInt8}{a:Int}(hl:l.length<=1048576000) (h:Rd l a t):RdW l (F_s_l11GetCell (l,(a,false))) (pCell t):=cell_rd (F:=F_s_l11Byte) (G:=F_s_l11Text) (s_one hl) (s_text hl) (s_textB hl) h
theorem i_cell {l t:List UInt8}{a:Int}(hl:l.length<=1048576000) (h:Rd l a t):RdW l (F_i_scan_cell (l,(a,false))) (pCell t):=cell_rd (F:=F_i_scan_one) (G:=F_i_scan_text) (i_one hl) (i_text hl) (i_textB hl) h
theorem i_cellB {l:List UInt8}{a:Int}(hl:l.length<=1048576000):F_i_scan_cell (l,(a,true))=some ((0,[]),(a,true)):=by
 unfold F_i_scan_cell;simp only[i_oneB,bnd_s,i_textB hl]
def cellAt (C:List UInt8×Int×Bool->Option (Cell×Int×Bool)) (l:List UInt8) (b:Int) (bad bit:Bool):Option ((Int×Bool×Int×List UInt8) ⊕ (Row×Int×Bool)):=cnd bit (bnd (C (l,(b,bad))) fun z5=>some (.inl (z5.2.1,(z5.2.2,(z5.1.1,z5.1.2))))) (some (.inl (b,(bad,(0,[])))))
theorem cellAt_ok {C:List UInt8×Int×Bool->Option (Cell×Int×Bool)}{l t:List UInt8}{b:Int}(hC:RdW l (C (l,(b,false))) (pCell t)) (hr:Rd l b t) (bit:Bool):match (if bit=true then pCell t else some ((0,[]),t)) with
  | none=>∃ v p,cellAt C l b false bit=some (.inl (p,(true,v)))
  | some (v,q)=>∃ p,cellAt C l b false bit=some (.inl (p,(false,v)))/\Rd l p q:=by
 unfold cellAt
 cases bit with
 | false=>exact⟨b,rfl,hr⟩
 | true =>
  rw[if_pos rfl]
  simp only[cnd_t]
  cases hp:pCell t with
  | none =>
   rw[hp] at hC
   obtain⟨v,p,h⟩:=hC
   exact⟨v,p,by rw[h];rfl⟩
  | some w =>
   obtain⟨v,q⟩:=w
   rw[hp] at hC
   obtain⟨p,h1,h2⟩:=hC
   exact⟨p,by rw[h1];rfl,h2⟩
theorem cellAt_bad {C:List UInt8×Int×Bool->Option (Cell×Int×Bool)}{l:List UInt8}{b:Int}(hC:C (l,(b,true))=some ((0,[]),(b,true))) (bit:Bool):cellAt C l b true bit=some (.inl (b,(true,(0,[])))):=by
 unfold cellAt
 cases bit with
 | false=>rfl
 | true=>rw[hC];rfl
theorem bit1 (n:Nat) (h:n<256):iAnd .i64 (n:Int) 1=((n % 2:Nat):Int):=by
 rw[show (1:Int)=((1:Nat):Int) from rfl,iAnd_s (k:=.i64) (by show _<2 ^ 63;omega) (by show _<2 ^ 63;omega),and_mask (j:=1) rfl]
theorem bit2 (n:Nat) (h:n<256):iAnd .i64 (n:Int) 2=((n / 2 % 2*2:Nat):Int):=by
 rw[show (2:Int)=((2:Nat):Int) from rfl,iAnd_s (k:=.i64) (by show _<2 ^ 63;omega) (by show _<2 ^ 63;omega)]
 congr 1
 have:∀ m:Fin 256,m.val &&& 2=m.val / 2 % 2*2:=by decide +kernel
 exact this ⟨n,h⟩
theorem bits_ok {n:Nat}(h:n<256):iEq (iAnd .i64 (n:Int) 1) 1=decide ((n:Int).toNat % 2=1)/\iNe (iAnd .i64 (n:Int) 1) 0=decide ((n:Int).toNat % 2=1)/\iEq (iAnd .i64 (n:Int) 2) 2=decide ((n:Int).toNat / 2 % 2=1)/\iNe (iAnd .i64 (n:Int) 2) 0=decide ((n:Int).toNat / 2 % 2=1):=by
 rw[bit1 n h,bit2 n h]
 simp only[iEq,iNe,Int.toNat_natCast]
 refine⟨?_, ?_, ?_, ?_⟩<;>rw[Bool.eq_iff_iff]<;>simp<;>omega
theorem pOne_nat {t q:List UInt8}{n:Int}(h:pOne t=some (n,q)):∃ m:Nat,n=m/\m<256:=by
 cases t with
 | nil=>cases h
 | cons x l =>
  simp only[pOne,Option.some.injEq,Prod.mk.injEq] at h
  exact⟨x.toNat,h.1.symm,y_lt x⟩
theorem cellAt_two {C:List UInt8×Int×Bool->Option (Cell×Int×Bool)}{l t:List UInt8}{b:Int}{P:Prop} [Decidable P] (hC:RdW l (C (l,(b,false))) (pCell t)) (hr:Rd l b t):((if P then pCell t else some ((0,[]),t))=none->∃ v p,cellAt C l b false (decide P)=some (.inl (p,(true,v))))/\(∀ v q,(if P then pCell t else some ((0,[]),t))=some (v,q)->∃ p,cellAt C l b false (decide P)=some (.inl (p,(false,v)))/\Rd l p q):=by
 have:=cellAt_ok hC hr (decide P)
 simp only[decide_eq_true_eq] at this
 refine⟨fun h=>?_,fun v q h=>?_⟩<;>rw[h] at this<;>exact this
theorem s_row {l t:List UInt8}{a:Int}(hl:l.length<=1048576000) (h:Rd l a t):RdW l (F_s_l11GetRow (l,(a,false))) (pRow0 t):=by
 unfold F_s_l11GetRow pRow0
 have h1:=s_text hl h
 cases hp:pText t with
 | none =>
  rw[hp] at h1
  have e1:F_s_l11Text (l,(a,false))=some ([],(a,true)):=h1
  exact⟨_,_,by simp only[e1,bnd_s,s_oneB,cnd_t];rfl⟩
 | some v =>
  obtain⟨key,q1⟩:=v
  rw[hp] at h1
  obtain⟨b1,e1,r1⟩:=h1
  simp only[e1,bnd_s]
  have h2:=s_one hl r1
  cases hp2:pOne q1 with
  | none =>
   rw[hp2] at h2
   have e2:F_s_l11Byte (l,(b1,false))=some (0,(b1,true)):=h2
   exact⟨_,_,by simp only[e2,bnd_s,s_oneB,cnd_t];rfl⟩
  | some w =>
   obtain⟨has,q2⟩:=w
   rw[hp2] at h2
   obtain⟨b2,e2,r2⟩:=h2
   simp only[e2,bnd_s]
   have h3:=s_one hl r2
   cases hp3:pOne q2 with
   | none =>
    rw[hp3] at h3
    have e3:F_s_l11Byte (l,(b2,false))=some (0,(b2,true)):=h3
    exact⟨_,_,by simp only[e3,bnd_s,cnd_t];rfl⟩
   | some u =>
    obtain⟨aside,q3⟩:=u
    rw[hp3] at h3
    obtain⟨b3,e3,r3⟩:=h3
    simp only[e3,bnd_s,cnd_f]
    obtain⟨m,rfl,hm⟩:=pOne_nat hp2
    obtain⟨t1,t2,t3,t4⟩:=bits_ok hm
    have ea:iEq aside 1=decide (aside=1):=iEq_d _ _
    by_cases ha:1<aside
    ·rw[if_pos ha]
     exact⟨_,_,by simp only[iGt_y ha,bNot_t,cnd_f,joinX_l];rfl⟩
    ·rw[if_neg ha]
     have hO:=cellAt_two (C:=F_s_l11GetCell) (P:=(m:Int).toNat % 2=1) (s_cell hl r3) r3
     unfold cellAt at hO
     simp only[iGt_n (show aside<=1 by omega),bNot_f,cnd_t,F_s_l9Old,F_s_l9New,bnd_s,t1,t3,ea]
     unfold pOld
     cases ho:(if (m:Int).toNat % 2=1 then pCell q3 else some ((0,[]),q3)) with
     | none =>
      obtain⟨v4,p4,e4⟩:=hO.1 ho
      exact⟨_,_,by simp only[e4,joinX_l,bNot_t,cnd_f];rfl⟩
     | some w4 =>
      obtain⟨old,q4⟩:=w4
      obtain⟨b4,e4,r4⟩:=hO.2 _ _ ho
      have hN:=cellAt_two (C:=F_s_l11GetCell) (P:=(m:Int).toNat / 2 % 2=1) (s_cell hl r4) r4
      unfold cellAt at hN
      simp only[e4,joinX_l,bNot_f,cnd_t]
      unfold pNew
      cases hn:(if (m:Int).toNat / 2 % 2=1 then pCell q4 else some ((0,[]),q4)) with
      | none =>
       obtain⟨v5,p5,e5⟩:=hN.1 hn
       exact⟨_,_,by simp only[e5,joinX_l];rfl⟩
      | some w5 =>
       obtain⟨new,q5⟩:=w5
       obtain⟨b5,e5,r5⟩:=hN.2 _ _ hn
       exact⟨b5,by simp only[e5,joinX_l],r5⟩
theorem s_rowB {l:List UInt8}{a:Int}(hl:l.length<=1048576000):F_s_l11GetRow (l,(a,true))=some (([],((0,[]),((0,[]),(0,false)))),(a,true)):=by
 unfold F_s_l11GetRow;simp only[s_textB hl,s_oneB,bnd_s,cnd_t];rfl
theorem bits0:iNe (iAnd .i64 0 1) 0=false/\iNe (iAnd .i64 0 2) 0=false:=by decide +kernel
theorem cellAt_any {C:List UInt8×Int×Bool->Option (Cell×Int×Bool)}{l t:List UInt8}{b:Int}{P:Prop} [Decidable P] (hC:RdW l (C (l,(b,false))) (pCell t)) (hr:Rd l b t):∃ p f v,cellAt C l b false (decide P)=some (.inl (p,(f,v)))/\(f=false->∃ q,Rd l p q):=by
 have h:=cellAt_two (P:=P) hC hr
 cases hp:(if P then pCell t else some ((0,[]),t)) with
 | none =>
  obtain⟨v,p,e⟩:=h.1 hp
  exact⟨p,true,v,e,fun h=>by cases h⟩
 | some w =>
  obtain⟨p,e,r⟩:=h.2 w.1 w.2 hp
  exact⟨p,false,w.1,e,fun _=>⟨_,r⟩⟩
theorem i_row {l t:List UInt8}{a:Int}(hl:l.length<=1048576000) (h:Rd l a t):RdW l (F_i_scan_row (l,(a,false))) (pRow t):=by
 unfold F_i_scan_row pRow pRow0
 have h1:=i_text hl h
 cases hp:pText t with
 | none =>
  rw[hp] at h1
  have e1:F_i_scan_text (l,(a,false))=some ([],(a,true)):=h1
  exact⟨_,_,by simp only[e1,bnd_s,i_oneB,bits0,cnd_f,joinX_l,cnd_t];rfl⟩
 | some v =>
  obtain⟨key,q1⟩:=v
  rw[hp] at h1
  obtain⟨b1,e1,r1⟩:=h1
  simp only[e1,bnd_s]
  have h2:=i_one hl r1
  cases hp2:pOne q1 with
  | none =>
   rw[hp2] at h2
   have e2:F_i_scan_one (l,(b1,false))=some (0,(b1,true)):=h2
   exact⟨_,_,by simp only[e2,bnd_s,i_oneB,bits0,cnd_f,joinX_l,cnd_t];rfl⟩
  | some w =>
   obtain⟨has,q2⟩:=w
   rw[hp2] at h2
   obtain⟨b2,e2,r2⟩:=h2
   simp only[e2,bnd_s]
   obtain⟨m,rfl,hm⟩:=pOne_nat hp2
   obtain⟨t1,t2,t3,t4⟩:=bits_ok hm
   have bad:∀ b,_:=fun b=>cellAt_bad (C:=F_i_scan_cell) (l:=l) (b:=b) (i_cellB hl)
   unfold cellAt at bad
   have h3:=i_one hl r2
   cases hp3:pOne q2 with
   | none =>
    rw[hp3] at h3
    have e3:F_i_scan_one (l,(b2,false))=some (0,(b2,true)):=h3
    exact⟨_,_,by simp only[e3,bnd_s,t2,t4,bad,joinX_l,cnd_t];rfl⟩
   | some u =>
    obtain⟨aside,q3⟩:=u
    rw[hp3] at h3
    obtain⟨b3,e3,r3⟩:=h3
    simp only[e3,bnd_s,t2,t4]
    by_cases ha:1<aside
    ·rw[if_pos ha]
     obtain⟨p4,f4,v4,e4,k4⟩:=cellAt_any (C:=F_i_scan_cell) (P:=(m:Int).toNat % 2=1) (i_cell hl r3) r3
     unfold cellAt at e4
     simp only[e4,joinX_l]
     cases f4 with
     | true=>exact⟨_,_,by simp only[bad,joinX_l,cnd_t];rfl⟩
     | false =>
      obtain⟨q4,r4⟩:=k4 rfl
      obtain⟨p5,f5,v5,e5,k5⟩:=cellAt_any (C:=F_i_scan_cell) (P:=(m:Int).toNat / 2 % 2=1) (i_cell hl r4) r4
      unfold cellAt at e5
      simp only[e5,joinX_l,iGt_y ha,cnd_t]
      cases f5 with
      | true=>exact⟨_,_,rfl⟩
      | false=>exact⟨_,_,rfl⟩
    ·rw[if_neg ha]
     have hO:=cellAt_two (C:=F_i_scan_cell) (P:=(m:Int).toNat % 2=1) (i_cell hl r3) r3
     unfold cellAt at hO
     unfold pOld
     cases ho:(if (m:Int).toNat % 2=1 then pCell q3 else some ((0,[]),q3)) with
     | none =>
      obtain⟨v4,p4,e4⟩:=hO.1 ho
      exact⟨_,_,by simp only[e4,joinX_l,bad,cnd_t];rfl⟩
     | some w4 =>
      obtain⟨old,q4⟩:=w4
      obtain⟨b4,e4,r4⟩:=hO.2 _ _ ho
      have hN:=cellAt_two (C:=F_i_scan_cell) (P:=(m:Int).toNat / 2 % 2=1) (i_cell hl r4) r4
      unfold cellAt at hN
      simp only[e4,joinX_l]
      unfold pNew
      cases hn:(if (m:Int).toNat / 2 % 2=1 then pCell q4 else some ((0,[]),q4)) with
      | none =>
       obtain⟨v5,p5,e5⟩:=hN.1 hn
       exact⟨_,_,by simp only[e5,joinX_l,cnd_t];rfl⟩
      | some w5 =>
       obtain⟨new,q5⟩:=w5
       obtain⟨b5,e5,r5⟩:=hN.2 _ _ hn
       have hk:key.length<9223372036854775807:=by have:=(textB_of hp).2;omega
       have e6:F_i_RowOk (key,((old.1,old.2),((new.1,new.2),((m:Int),decide (aside=1)))))=some (rowOk (key,old,new,(m:Int),decide (aside=1))):=i_RowOk (r:=(key,old,new,(m:Int),decide (aside=1))) hk
       simp only[e5,joinX_l,cnd_f,iGt_n (show aside<=1 by omega),iEq_d,e6,bnd_s]
       cases hr:rowOk (key,old,new,(m:Int),decide (aside=1)) with
       | false=>exact⟨_,_,rfl⟩
       | true=>exact⟨b5,rfl,r5⟩
end
end Go.Vs
