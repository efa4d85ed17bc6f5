import Derived.Test.YtmpopjdcbabchaaGreatDoorVsW5
import Derived.Test.YtmpopjdcbabchaaGreatDoorVsQu3
set_option linter.all false
namespace Go.Vs
noncomputable section
theorem sEq_d (a b:List UInt8):sEq a b=(a==b):=rfl
theorem iEq_x (a b:Int):iEq a b=decide (a=b):=by simp only[iEq];rfl
theorem find_loop {α σ ρ : Type} {step : σ → Option (σ ⊕ ρ)} (st : Nat → σ) (x : List α) (p : α → Bool) (found : Nat → ρ) (no : ρ)
    (hs : ∀ (i : Nat) (h : i < x.length), step (st i) = if p x[i] = true then some (.inr (found i)) else some (.inl (st (i + 1)))) (he : step (st x.length) = some (.inr no)) (s0 : σ) (h0 : s0 = st 0) :
    loopX step s0 = some (match x.findIdx? p with | some i => found i | none => no) := by
  obtain ⟨r, h1, h2⟩ := loop_inv (step := step) (fun i s => s = st i ∧ ∀ (j : Nat) (h : j < x.length), j < i → p x[j] = false) x.length (fun r => r = match x.findIdx? p with | some i => found i | none => no)
    (fun i s hi h => by
      obtain ⟨rfl, hp⟩ := h
      rw [hs i hi]
      by_cases hq : p x[i] = true
      · refine .inr ⟨_, by rw [if_pos hq], ?_⟩
        have : x.findIdx? p = some i := by
          rw [List.findIdx?_eq_some_iff_getElem]
          exact ⟨hi, hq, fun j hj => by simpa using hp j (by omega) hj⟩
        rw [this]
      · refine .inl ⟨_, by rw [if_neg hq], rfl, fun j hj hji => ?_⟩
        by_cases e : j = i
        · subst e; simpa using hq
        · exact hp j hj (by omega))
    (fun s h => by
      obtain ⟨rfl, hp⟩ := h
      refine ⟨_, he, ?_⟩
      have : x.findIdx? p = none := by
        rw [List.findIdx?_eq_none_iff]
        intro y hy
        obtain ⟨j, hj, rfl⟩ := List.getElem_of_mem hy
        exact hp j hj hj
      rw [this]) s0 ⟨h0, fun j _ h => absurd h (Nat.not_lt_zero _)⟩
  rw [h1, h2]
def eqAll {α β:Type}(q:α->β->Bool):List α->List β->Bool
 | a::x,b::y=>q a b&&eqAll q x y
 | _,_=>true
theorem same_loop {α β σ ρ:Type}{step:σ->Option (σ ⊕ ρ)}(st:Nat->σ) (x:List α) (y:List β) (q:α->β->Bool) (no yes:ρ) (hl:x.length=y.length)
  (hs:∀(i:Nat) (h:i<x.length) (h':i<y.length),step (st i)=if q x[i] y[i]=true then some (.inl (st (i+1))) else some (.inr no)) (he:step (st x.length)=some (.inr yes)) (s0:σ) (h0:s0=st 0) :
  loopX step s0=some (if eqAll q x y=true then yes else no):=by
 have key:∀(x':List α) (y':List β) (i:Nat),x.drop i=x'->y.drop i=y'->i<=x.length->loopX step (st i)=some (if eqAll q x' y'=true then yes else no):=by
  intro x'
  induction x' with
  | nil =>
   intro y' i h1 h2 hi
   have:i=x.length:=by have:=congrArg List.length h1;simp at this;omega
   subst this
   rw[loopX_eq,he]
   simp [eqAll]
  | cons a x' ih =>
   intro y' i h1 h2 hi
   have hi':i<x.length:=by have:=congrArg List.length h1;simp at this;omega
   have hi2:i<y.length:=by omega
   rw[List.drop_eq_getElem_cons hi']at h1
   rw[List.drop_eq_getElem_cons hi2]at h2
   simp only[List.cons.injEq]at h1
   obtain⟨rfl,h1⟩:=h1
   subst h2
   rw[loopX_eq,hs i hi' hi2]
   cases hq:q x[i] y[i] with
   | true=>rw[if_pos rfl];simp only[eqAll,hq,Bool.true_and];exact ih _ (i+1) h1 rfl (by omega)
   | false=>rw[if_neg (by simp)];simp [eqAll,hq]
 rw[h0]
 exact key x y 0 rfl rfl (Nat.zero_le _)
abbrev Cell:=Int×List UInt8
def cellOk (c:Cell):Bool:=decide (0<=c.1/\c.1<=5)&&decide (c.2.length<=20)
def cellText (c:Cell):Option (List UInt8):=if cellOk c then decodeT c.1.toNat c.2 else none
def sameText (a b:Cell):Bool:=match cellText a,cellText b with
 | some x,some y=>x==y
 | _,_=>false
theorem cellText_ok {c:Cell}{t:List UInt8}(h:cellText c=some t):cellOk c=true/\decodeT c.1.toNat c.2=some t:=by
 unfold cellText at h
 split at h
 ·rename_i h1;exact⟨h1,h⟩
 ·cases h
theorem s_CellOk (c:Cell):Zs c=some (cellOk c):=by
 unfold Zs Zbc cellOk
 simp only[s_In,bnd_s,cnd_if]
 split
 ·rename_i h
  have:(0:Int)<=c.1/\c.1<=5:=by simpa using h
  rw[decide_eq_true this]
  simp only[Bool.true_and,iLe,lLen_def]
  exact congrArg some (decide_eq_decide.2 (by omega))
 ·rename_i h
  have:¬((0:Int)<=c.1/\c.1<=5):=by simpa using h
  rw[decide_eq_false this];rfl
theorem i_CellOk (c:Cell):Zcm c=some (cellOk c):=s_CellOk c
theorem cellText_f {c:Cell}{F:Int×List UInt8->Option (List UInt8×Bool)}(hF:∀{cs:Nat}{b:List UInt8},cs<=5->b.length<=1048576->F ((cs:Int),b)=some (optR (decodeT cs b))) :
  (bnd (some (cellOk c)) (fun z1=>(cnd (bNot z1) (some ([],false)) (bnd (F (c.1,c.2)) (fun z2=>(some (z2.1,z2.2)))))))=some (optR (cellText c)):=by
 rw[bnd_s]
 unfold cellText
 cases h:cellOk c with
 | false=>rfl
 | true =>
  simp only[bNot_t,cnd_f,if_true]
  simp only[cellOk,Bool.and_eq_true,decide_eq_true_eq]at h
  obtain⟨⟨h0,h5⟩,hl⟩:=h
  obtain⟨t,b⟩:=c
  simp only at h0 h5 hl ⊢
  obtain⟨n,rfl⟩:=Int.eq_ofNat_of_zero_le h0
  rw[hF (by omega) (by omega),bnd_s];rfl
theorem s_CellText (c:Cell):Zi c=some (optR (cellText c)):=by
 unfold Zi
 rw[show Zs (c.1,c.2)=some (cellOk c) from s_CellOk c]
 exact cellText_f fun h1 h2=>s_Decode h1 h2
theorem i_CellText (c:Cell):Zbi c=some (optR (cellText c)):=by
 unfold Zbi
 rw[show Zcm (c.1,c.2)=some (cellOk c) from i_CellOk c]
 exact cellText_f fun h1 h2=>i_Decode h1 h2
theorem same_f {a b:Cell}{F:Cell->Option (List UInt8×Bool)}(hF:∀c,F c=some (optR (cellText c))):(bnd (F (a.1,a.2)) (fun z1=>(bnd
 (F (b.1,b.2)) (fun z2=>(cnd z1.2 (cnd z2.2 (some (sEq z1.1 z2.1)) (some false)) (some false))))))=some (sameText a b):=by
 rw[hF,bnd_s,hF,bnd_s]
 unfold sameText
 cases h1:cellText a<;>cases h2:cellText b<;>rfl
theorem s_SameText (a b:Cell):Za (a,b)=some (sameText a b):=same_f s_CellText
theorem i_SameText (a b:Cell):Zfr (a,b)=some (sameText a b):=same_f i_CellText
def cellOf (cs:Int) (x:List UInt8):Option Cell:=match encV cs x with
 | none=>none
 | some b=>if b.length<=20 then some (cs,b) else none
def cR (o:Option Cell):Cell×Bool:=match o with
 | none=>((0,[]),false)
 | some c=>(c,true)
theorem encV_cs {cs:Int}{x b:List UInt8}(h:encV cs x=some b):0<=cs/\cs<=5:=by
 unfold encV at h
 split at h
 ·assumption
 ·cases h
theorem s_CellOf {cs:Int}{x:List UInt8}(hl:x.length<=1048576):Zbd (cs,x)=some (cR (cellOf cs x)):=by
 unfold Zbd cellOf
 simp only[s_Encode hl,bnd_s]
 cases encV cs x with
 | none=>rfl
 | some b =>
  simp only[optR,bNot_t,cnd_f]
  by_cases h:b.length<=20
  ·rw[iGt_n (by simp only[lLen_def];omega),cnd_f,if_pos h];rfl
  ·rw[iGt_y (by simp only[lLen_def];omega),cnd_t,if_neg h];rfl
theorem cellOf_len (cs:Int) (x:List UInt8):(cR (cellOf cs x)).1.2.length<=20:=by
 unfold cellOf
 split
 ·exact Nat.zero_le _
 ·split
  ·assumption
  ·exact Nat.zero_le _
theorem cellText_len {c:Cell}{t:List UInt8}(h:cellText c=some t):t.length<=80:=by
 obtain⟨h1,h2⟩:=cellText_ok h
 simp only[cellOk,Bool.and_eq_true,decide_eq_true_eq]at h1
 simp only[decodeT,Option.map_eq_some_iff]at h2
 obtain⟨ns,h3,rfl⟩:=h2
 have hc:c.1.toNat<=5:=by omega
 have h4:=putAll_len hc (putAll_of hc _ (Nat.le_refl _) h3).1
 have:=textOf_len ns
 omega
def turn (c:Cell) (cs:Int):Cell×Bool:=match cellText c with
 | none=>(c,false)
 | some t=>match cellOf cs t with
  | none=>(c,false)
  | some d=>(d,true)
theorem s_Turn {c:Cell}{cs:Int}(h:c.2.length<=1048576):Zbz (c,cs)=some (turn c cs):=by
 have e1:Zr (c.1,c.2)=some c:=by unfold Zr;rw[room_ok (by simp only;omega)];rfl
 unfold Zbz turn
 simp only
 rw[show Zi (c.1,c.2)=some (optR (cellText c)) from s_CellText c,bnd_s]
 cases hc:cellText c with
 | none =>
  simp only[optR,bNot_f,cnd_t,e1,bnd_s]
  rw[s_CellOf (by simp),bnd_s]
 | some t =>
  have hl:=cellText_len hc
  simp only[optR,bNot_t,cnd_f,e1,bnd_s]
  rw[s_CellOf (by omega),bnd_s]
  cases cellOf cs t with
  | none=>rfl
  | some d=>rfl
theorem iAnd_255 (a:Int):∃n:Nat,n<=255/\iAnd .i64 a 255=(n:Int):=by
 refine⟨((BitVec.ofInt 64 a).toNat&&&255),Nat.and_le_right, ?_⟩
 have e:(BitVec.ofInt 64 255).toNat=255:=by decide
 have hle:(BitVec.ofInt 64 a).toNat&&&255<=255:=Nat.and_le_right
 show IntKind.wrap .i64 (((BitVec.ofInt 64 a)&&&(BitVec.ofInt 64 255)).toNat:Int)=_
 rw[BitVec.toNat_and,e]
 exact wrap_i64 (by omega) (by omega)
theorem iRem_n (v n:Nat):iRem (v:Int) (n:Int)=((v%n:Nat):Int):=rfl
abbrev Cs:=Int×Int
def B20 (b:List UInt8):Prop:=b.length<=1048576
theorem l1Byte_ok {b:List UInt8}{s:Cs}(hb:B20 b) (hs:0<=s.1):∃(v:Nat) (s':Cs),Zz (b,s)=some ((v:Int),s')/\v<=255/\0<=s'.1:=by
 obtain⟨i,h⟩:=s
 simp only at hs
 obtain⟨k,rfl⟩:=Int.eq_ofNat_of_zero_le hs
 unfold B20 at hb
 unfold Zz
 simp only
 by_cases hk:k<b.length
 ·rw[iLt_y (by simp only[lLen_def];omega),cnd_t,idx_at hk,bnd_s,joinX_l]
  obtain⟨n,h1,h2⟩:=iAnd_255 (iAdd .i64 (iAnd .i64 (iXor .i64 (iShr .i64 (iAdd .i64 (iMul .i64 h 6364136223846793005) 1442695040888963407) 33) (iShr .i64 (iAdd .i64 (iMul .i64 h 6364136223846793005) 1442695040888963407) 47)) 255) (iConv .i64 (y2i b[k])))
  refine⟨n,_,by simp only[h2];rfl,h1, ?_⟩
  simp only
  rw[iAdd_1 (by omega)];omega
 ·rw[iLt_n (by simp only[lLen_def];omega),cnd_f,joinX_l]
  obtain⟨n,h1,h2⟩:=iAnd_255 (iXor .i64 (iShr .i64 (iAdd .i64 (iMul .i64 h 6364136223846793005) 1442695040888963407) 33) (iShr .i64 (iAdd .i64 (iMul .i64 h 6364136223846793005) 1442695040888963407) 47))
  exact⟨n,_,by simp only[h2];rfl,h1,by simp only;omega⟩
theorem l1Below_ok {b:List UInt8}{s:Cs}(n:Int) (hb:B20 b) (hs:0<=s.1):∃(v:Nat) (s':Cs),Zc ((b,s),n)=some ((v:Int),s')/\(0<n->(v:Int)<n)/\(n<=0->v=0)/\0<=s'.1:=by
 obtain⟨i,h⟩:=s
 unfold Zc
 simp only
 by_cases h0:n<=0
 ·rw[iLe_y h0,cnd_t]
  exact⟨0,(i,h),rfl,fun h=>by omega,fun _=>rfl,hs⟩
 obtain⟨m,rfl⟩:=Int.eq_ofNat_of_zero_le (show 0<=n by omega)
 have hm:0<m:=by omega
 rw[iLe_n (by omega),cnd_f]
 obtain⟨v1,s1,e1,l1,k1⟩:=l1Byte_ok hb hs
 by_cases h1:(m:Int)<=256
 ·rw[iLe_y h1,cnd_t,e1,bnd_s,iNe_y (by omega),chk_t]
  simp only
  rw[iRem_n]
  exact⟨v1%m,(s1.1,s1.2),rfl,fun _=>by have:=Nat.mod_lt v1 hm;omega,fun h=>by omega,k1⟩
 ·rw[iLe_n (by omega),cnd_f,e1,bnd_s]
  obtain⟨v2,s2,e2,l2,k2⟩:=l1Byte_ok (s:=(s1.1,s1.2)) hb k1
  simp only[e2,bnd_s]
  obtain⟨v3,s3,e3,l3,k3⟩:=l1Byte_ok (s:=(s2.1,s2.2)) hb k2
  simp only[e3,bnd_s]
  rw[iNe_y (by omega),chk_t]
  have q1:iMul .i64 (v1:Int) 65536=((v1*65536:Nat):Int):=by rw[iMul_ok (by omega) (by omega)];omega
  have q2:iMul .i64 (v2:Int) 256=((v2*256:Nat):Int):=by rw[iMul_ok (by omega) (by omega)];omega
  rw[q1,q2,iAdd_n (by omega),iAdd_n (by omega),iRem_n]
  exact⟨_,(s3.1,s3.2),rfl,fun _=>by have:=Nat.mod_lt (v1*65536+v2*256+v3) hm;omega,fun h=>by omega,k3⟩
theorem l1Once_ok {b:List UInt8}{s:Cs}(n:Int) (hb:B20 b) (hs:0<=s.1):∃(v:Bool) (s':Cs),Zbo ((b,s),n)=some (v,s')/\0<=s'.1:=by
 obtain⟨v,s',e,_,_,k⟩:=l1Below_ok (s:=(s.1,s.2)) n hb hs
 unfold Zbo
 simp only[e,bnd_s]
 exact⟨_,_,rfl,k⟩
theorem l1Int_ok {b:List UInt8}{s:Cs}(l:List Int) (hb:B20 b) (hs:0<=s.1) (hl:0<l.length):∃(v:Int) (s':Cs),Zf ((b,s),l)=some (v,s')/\v∈l/\0<=s'.1:=by
 obtain⟨v,s',e,h1,_,k⟩:=l1Below_ok (s:=(s.1,s.2)) (lLen l) hb hs
 have h1:=h1 (by simp only[lLen_def];omega)
 simp only[lLen_def]at h1
 unfold Zf
 simp only[e,bnd_s]
 rw[idx_at (i:=v) (by omega),bnd_s]
 exact⟨_,_,rfl,List.getElem_mem _,k⟩
theorem l1New_ok {b : List UInt8} (hb : B20 b) : ∃ h : Int, Zo b = some h := by
  unfold Zo
  obtain ⟨r, h1, h, h2⟩ := loop_inv (step := Zcx b) (fun i (st : Int × Int) => st.2 = (i : Int)) b.length (fun r => ∃ h, r = .inl h)
    (fun i st hi h => by
      obtain ⟨p, q⟩ := st
      simp only at h
      subst h
      unfold Zcx
      simp only
      rw [iLt_y (by simp only [lLen_def]; omega), cnd_t]
      by_cases h4 : (i : Int) < 4000
      · rw [iLt_y h4, cnd_t, idx_at hi, bnd_s]
        exact .inl ⟨_, rfl, by simp only; rw [iAdd_1 (by unfold B20 at hb; omega)]⟩
      · rw [iLt_n (by omega), cnd_f]
        exact .inr ⟨_, rfl, _, rfl⟩)
    (fun st h => by
      obtain ⟨p, q⟩ := st
      simp only at h
      subst h
      refine ⟨.inl p, ?_, p, rfl⟩
      unfold Zcx
      simp only
      rw [iLt_n (by simp only [lLen_def]; omega), cnd_f])
    (iAdd .i64 953953 (lLen b), 0) rfl
  subst h2
  rw [h1, joinX_l]
  exact ⟨_, rfl⟩
theorem l1Bend_ok {b l:List UInt8}{s:Cs}(hb:B20 b) (hs:0<=s.1) (hl:l.length<=1048576):∃(v:List UInt8) (s':Cs),Zer ((b,s),l)=some (v,s')/\v.length<=l.length/\0<=s'.1:=by
 have e0:lApp [] l=l:=rfl
 unfold Zer
 simp only[e0]
 rw[room_ok (by omega),chk_t]
 obtain⟨v1,s1,e1,_,_,k1⟩:=l1Below_ok (s:=(s.1,s.2)) 5 hb hs
 simp only[e1,bnd_s]
 rw[iEq_x]
 by_cases h0:(v1:Int)=0
 ·rw[decide_eq_true h0,cnd_t]
  have ea:iAdd .i64 (lLen l) 1=((l.length+1:Nat):Int):=iAdd_1 (by omega)
  rw[ea]
  obtain⟨v2,s2,e2,h2,_,k2⟩:=l1Below_ok (s:=(s1.1,s1.2)) ((l.length+1:Nat):Int) hb k1
  have h2:=h2 (by omega)
  simp only[e2,bnd_s]
  rw[show within 0 (v2:Int) (lLen l)=true from decide_eq_true (by simp only[lLen_def];omega),chk_t,show fits 0 (nOf (v2:Int)-0) l.length=true from decide_eq_true (by simp only[nOf_n];omega),chk_t]
  refine⟨_,_,rfl, ?_,k2⟩
  simp only[lTake,nOf_n,List.length_take]
  omega
 rw[decide_eq_false h0,cnd_f,iEq_x]
 by_cases h1:(v1:Int)=1
 ·rw[decide_eq_true h1,cnd_t]
  by_cases hl0:l.length=0
  ·rw[iGt_n (by simp only[lLen_def];omega),cnd_f,joinX_l]
   exact⟨_,_,rfl,Nat.le_refl _,k1⟩
  ·rw[iGt_y (by simp only[lLen_def];omega),cnd_t]
   obtain⟨v2,s2,e2,h2,_,k2⟩:=l1Below_ok (s:=(s1.1,s1.2)) (lLen l) hb k1
   have h2:=h2 (by simp only[lLen_def];omega)
   simp only[lLen_def]at h2
   simp only[e2,bnd_s]
   rw[idx_at (i:=v2) (by omega),bnd_s]
   obtain⟨v3,s3,e3,h3,_,k3⟩:=l1Below_ok (s:=(s2.1,s2.2)) 255 hb k2
   simp only[e3,bnd_s,joinX_l]
   exact⟨_,_,rfl,by simp [lSet],k3⟩
 ·rw[decide_eq_false h1,cnd_f,joinX_l]
  exact⟨_,_,rfl,Nat.le_refl _,k1⟩
theorem l1Str_ok {b:List UInt8}{s:Cs}(l:List (List UInt8)) (hb:B20 b) (hs:0<=s.1) (hl:0<l.length):∃(v:List UInt8) (s':Cs),Zbt ((b,s),l)=some (v,s')/\v∈l/\0<=s'.1:=by
 obtain⟨v,s',e,h1,_,k⟩:=l1Below_ok (s:=(s.1,s.2)) (lLen l) hb hs
 have h1:=h1 (by simp only[lLen_def];omega)
 simp only[lLen_def]at h1
 unfold Zbt
 simp only[e,bnd_s]
 rw[idx_at (i:=v) (by omega),bnd_s]
 exact⟨_,_,rfl,List.getElem_mem _,k⟩
theorem of_all {p:Int->Bool}{l:List Int}{v:Int}(h:l.all p=true) (hv:v∈l):p v=true:=(List.all_eq_true.1 h) v hv
def sgI (v:Int):Bool:=decide (0<=v)&&isSign v.toNat
theorem sgI_n {v:Int}(h:sgI v=true):∃n:Nat,v=(n:Int)/\isSign n=true:=by
 simp only[sgI,Bool.and_eq_true,decide_eq_true_eq]at h
 exact⟨v.toNat,by omega,h.2⟩
theorem l2Sign_ok {b:List UInt8}{s:Cs}(hb:B20 b) (hs:0<=s.1):∃(n:Nat) (s':Cs),Zcz (b,s)=some ((n:Int),s')/\isSign n=true/\0<=s'.1:=by
 unfold Zcz
 obtain⟨v,s',e,h1,k⟩:=l1Int_ok (s:=(s.1,s.2)) [0,97,90,127,128,164,233,2047,2048,8364,1072,1102,1025,12354,12450,352,65535,65536,1114111] hb hs (by simp)
 simp only[e,bnd_s]
 obtain⟨n,rfl,h2⟩:=sgI_n (of_all (p:=sgI) (by decide +kernel) h1)
 exact⟨n,s',rfl,h2,k⟩
theorem l3Any_ok {b:List UInt8}{s:Cs}(hb:B20 b) (hs:0<=s.1):∃(v:Int) (s':Cs),Zeq (b,s)=some (v,s')/\v∈[(0:Int),1,2,3,4,5,6,-1]/\0<=s'.1:=by
 unfold Zeq
 obtain⟨v,s',e,h1,k⟩:=l1Int_ok (s:=(s.1,s.2)) [0,1,2,3,4,5,6,-1] hb hs (by simp)
 simp only[e,bnd_s]
 exact⟨v,s',rfl,h1,k⟩
def HasS (cs:Int) (n:Nat):Prop:=isSign n=true/\(0<=cs->cs<=5->∃b,putIn cs.toNat n=some b)
theorem putIn_0 {n:Nat}(h:isSign n=true):putIn 0 n=some (enc n):=by unfold putIn;rw[if_pos rfl,if_pos h]
theorem putIn_b {cs n b:Nat}(h1:1<=cs) (h4:cs<=4) (hb:b<256) (h:byteSign cs b=some n):putIn cs n=some [yN b]:=by
 unfold putIn;rw[if_neg (by omega),if_neg (by omega),signByte_of h1 h4 hb h];rfl
def euI (v:Int):Bool:=decide (0<=v)&&isSign v.toNat&&(eucPut v.toNat).isSome
theorem l5Sign_ok {b:List UInt8}{s:Cs}(cs:Int) (hb:B20 b) (hs:0<=s.1):∃(n:Nat) (s':Cs),Zda ((b,s),cs)=some ((n:Int),s')/\HasS cs n/\0<=s'.1:=by
 unfold Zda
 simp only[iEq_x]
 by_cases c0:cs=0
 ·rw[decide_eq_true c0,cnd_t]
  obtain⟨n,s',e,h,k⟩:=l2Sign_ok (s:=(s.1,s.2)) hb hs
  simp only[e,bnd_s]
  subst c0
  exact⟨n,s',rfl,⟨h,fun _ _=>⟨_,putIn_0 h⟩⟩,k⟩
 rw[decide_eq_false c0,cnd_f]
 by_cases c5:cs=5
 ·rw[decide_eq_true c5,cnd_t]
  obtain⟨v,s',e,h1,k⟩:=l1Int_ok (s:=(s.1,s.2)) [97,32,12353,12435,12449,12534,12354] hb hs (by simp)
  simp only[e,bnd_s]
  have h2:=of_all (p:=euI) (by decide +kernel) h1
  simp only[euI,Bool.and_eq_true,decide_eq_true_eq]at h2
  obtain⟨⟨h2,h3⟩,h4⟩:=h2
  obtain⟨n,rfl⟩:=Int.eq_ofNat_of_zero_le h2
  subst c5
  obtain⟨q,hq⟩:=Option.isSome_iff_exists.1 h4
  exact⟨n,s',rfl,⟨h3,fun _ _=>⟨q,by unfold putIn;rw[if_neg (by decide),if_pos (by decide)];exact hq⟩⟩,k⟩
 rw[decide_eq_false c5,cnd_f]
 obtain⟨v,s',e,h1,k⟩:=l1Int_ok (s:=(s.1,s.2)) [65,97,32,164,192,200,228,255,163,128,130,189] hb hs (by simp)
 simp only[e,bnd_s]
 have h2:=of_all (p:=fun v=>decide (0<=v/\v<256)) (by decide +kernel) h1
 simp only[decide_eq_true_eq]at h2
 obtain⟨m,rfl⟩:=Int.eq_ofNat_of_zero_le h2.1
 by_cases hc:1<=cs/\cs<=4
 ·obtain⟨c,rfl⟩:=Int.eq_ofNat_of_zero_le (show 0<=cs by omega)
  have hc1:1<=c:=by omega
  have hc4:c<=4:=by omega
  rw[s_ByteSign hc1 hc4 (by omega),bnd_s]
  cases hv:byteSign c m with
  | none =>
   have h120:byteSign c 120=some 120:=by unfold byteSign;rw[if_pos (by omega)]
   exact⟨120,s',rfl,⟨by decide,fun _ _=>⟨_,putIn_b hc1 hc4 (by omega) h120⟩⟩,k⟩
  | some n =>
   exact⟨n,s',rfl,⟨byte_isSign hc1 hc4 (by omega) hv,fun _ _=>⟨_,putIn_b hc1 hc4 (by omega) hv⟩⟩,k⟩
 ·have e2:Zl (cs,(m:Int))=some (0,false):=by
   unfold Zl
   simp only[s_In,bnd_s]
   rw[decide_eq_false hc,bNot_f,cnd_t]
  rw[e2,bnd_s]
  exact⟨120,s',rfl,⟨by decide,fun _ _=>by omega⟩,k⟩
theorem put_sgn {l:List UInt8}{n:Nat}(hl:l.length+4<=140737488355328) (h:isSign n=true):Zp (l,(n:Int))=some (l++enc n):=by
 rw[s_PutSign hl]
 have:sgn (n:Int)=true:=by simp [sgn,h]
 rw[this];rfl
theorem textOf_app (ns:List Nat) (n:Nat):textOf (ns++[n])=textOf ns++enc n:=by simp [textOf]
theorem l5Text_ok {b : List UInt8} {s : Cs} (cs : Int) (m : Nat) (hb : B20 b) (hs : 0 ≤ s.1) (hm : m ≤ 100) : ∃ (ns : List Nat) (s' : Cs), Zbb ((b, s), (cs, (m : Int))) = some (textOf ns, s') ∧ ns.length ≤ m ∧ (∀ n ∈ ns, HasS cs n) ∧ 0 ≤ s'.1 := by
  unfold Zbb
  simp only
  rw [iAdd_1 (by omega)]
  obtain ⟨K, s1, e1, l1, _, k1⟩ := l1Below_ok (s := (s.1, s.2)) ((m + 1 : Nat) : Int) hb hs
  have l1 := l1 (by omega)
  simp only [e1, bnd_s]
  obtain ⟨r, h1, ns, s', h2, h3, h4, h5⟩ := loop_inv (step := Zdb ((b, s), (cs, (m : Int)))) (fun j (st : Int × Int × List UInt8 × Int) => 0 ≤ st.1 ∧ st.2.2.2 = (K : Int) - j ∧ ∃ ns : List Nat, st.2.2.1 = textOf ns ∧ ns.length = j ∧ ∀ n ∈ ns, HasS cs n) K (fun r => ∃ (ns : List Nat) (s' : Cs), r = .inl (s'.1, s'.2, textOf ns) ∧ ns.length = K ∧ (∀ n ∈ ns, HasS cs n) ∧ 0 ≤ s'.1)
    (fun j st hj h => by
      obtain ⟨p, q, w, k⟩ := st
      obtain ⟨g1, g2, ns, g3, g4, g5⟩ := h
      simp only at g1 g2 g3
      subst g2 g3
      obtain ⟨n, s2, e2, h2, k2⟩ := l5Sign_ok (s := (p, q)) cs hb g1
      have hl := textOf_len ns
      refine .inl ⟨(s2.1, s2.2, textOf (ns ++ [n]), (K : Int) - ((j + 1 : Nat) : Int)), ?_, k2, rfl, ns ++ [n], rfl, by simp [g4], fun x hx => by
        rcases List.mem_append.1 hx with hx | hx
        · exact g5 x hx
        · simp only [List.mem_singleton] at hx; subst hx; exact h2⟩
      unfold Zdb
      simp only
      rw [iGt_y (by omega), cnd_t, e2, bnd_s, put_sgn (by omega) h2.1, bnd_s, iSub_ok (by omega) (by omega), textOf_app, show (K : Int) - j - 1 = (K : Int) - ((j + 1 : Nat) : Int) by omega])
    (fun st h => by
      obtain ⟨p, q, w, k⟩ := st
      obtain ⟨g1, g2, ns, g3, g4, g5⟩ := h
      simp only at g1 g2 g3
      subst g2 g3
      refine ⟨.inl (p, q, textOf ns), ?_, ns, (p, q), rfl, g4, g5, g1⟩
      unfold Zdb
      simp only
      rw [iGt_n (by omega), cnd_f])
    (s1.1, s1.2, ([], (K : Int))) ⟨k1, by simp, [], rfl, rfl, by simp⟩
  subst h2
  rw [h1, joinX_l]
  exact ⟨ns, s', rfl, by omega, h4, h5⟩
theorem putAll_le {cs:Nat}(hc:cs<=5):∀{ns:List Nat}{l:List UInt8},putAll cs ns=some l->l.length<=4*ns.length
 | [],l,h=>by simp only[putAll,Option.some.injEq]at h;subst h;simp
 | n::ns,l,h=>by
  simp only[putAll]at h
  cases h1:putIn cs n with
  | none=>rw[h1]at h;simp at h
  | some b =>
   cases h2:putAll cs ns with
   | none=>rw[h1,h2]at h;simp at h
   | some r =>
    rw[h1,h2]at h
    simp only[Option.some.injEq]at h;subst h
    have h3:=putIn_len hc h1
    have:=putAll_le hc h2
    simp only[List.length_cons,List.length_append];omega
theorem encV_len {cs:Int}{t:List UInt8}:(optR (encV cs t)).1.length<=4*t.length:=by
 unfold encV
 split
 ·rename_i h
  cases he:encodeT cs.toNat t with
  | none=>simp [optR]
  | some b =>
   simp only[encodeT,Option.bind_eq_some_iff]at he
   obtain⟨ns,h1,h2⟩:=he
   have:=putAll_le (by omega) h2
   have:=(signs_ok h1).2
   show b.length<=_;omega
 ·simp [optR]
theorem l5Bytes_ok {b:List UInt8}{s:Cs}(cs:Int) (hb:B20 b) (hs:0<=s.1):∃(v:List UInt8) (s':Cs),Zes ((b,s),cs)=some (v,s')/\v.length<=100/\0<=s'.1:=by
 unfold Zes
 obtain⟨ns,s1,e1,l1,_,k1⟩:=l5Text_ok (s:=(s.1,s.2)) cs 5 hb hs (by omega)
 have hl:=textOf_len ns
 simp only[show ((5:Nat):Int)=5 from rfl]at e1
 simp only[e1,bnd_s]
 rw[s_Encode (by omega),bnd_s]
 have hen:=encV_len (cs:=cs) (t:=textOf ns)
 obtain⟨v2,s2,e2,_,_,k2⟩:=l1Below_ok (s:=(s1.1,s1.2)) 5 hb k1
 simp only[e2,bnd_s,iEq_x]
 by_cases c0:(v2:Int)=0
 ·rw[decide_eq_true c0,cnd_t]
  obtain⟨v,s3,e3,h3,k3⟩:=l1Bend_ok (s:=(s2.1,s2.2)) (l:=(optR (encV cs (textOf ns))).1) hb k2 (by omega)
  simp only[e3,bnd_s]
  exact⟨_,_,rfl,by omega,k3⟩
 rw[decide_eq_false c0,cnd_f]
 by_cases c1:(v2:Int)=1
 ·rw[decide_eq_true c1,cnd_t]
  obtain⟨v,s3,e3,h3,k3⟩:=l1Int_ok (s:=(s2.1,s2.2)) [128,129,164,255,194,157] hb k2 (by simp)
  simp only[e3,bnd_s]
  rw[room_ok (by omega),chk_t]
  exact⟨_,_,rfl,by simp only[lApp,List.length_append,List.length_singleton];omega,k3⟩
 ·rw[decide_eq_false c1,cnd_f]
  exact⟨_,_,rfl,by omega,k2⟩
def cellL (c:Cell):Prop:=c.2.length<=100
theorem l8Draw_ok {b:List UInt8}{s:Cs}(hb:B20 b) (hs:0<=s.1):∃(c:Cell) (s':Cs),Zep (b,s)=some (c,s')/\cellL c/\0<=s'.1:=by
 unfold Zep
 obtain⟨v1,s1,e1,l1,_,k1⟩:=l1Below_ok (s:=(s.1,s.2)) 6 hb hs
 simp only[e1,bnd_s]
 obtain⟨ns,s2,e2,l2,_,k2⟩:=l5Text_ok (s:=(s1.1,s1.2)) (v1:Int) 6 hb k1 (by omega)
 have hl:=textOf_len ns
 simp only[show ((6:Nat):Int)=6 from rfl]at e2
 simp only[e2,bnd_s]
 rw[s_CellOf (by omega),bnd_s]
 have:=cellOf_len (v1:Int) (textOf ns)
 exact⟨_,_,rfl,by unfold cellL;simp only;omega,k2⟩
theorem l8Any_ok {b:List UInt8}{s:Cs}(hb:B20 b) (hs:0<=s.1):∃(c:Cell) (s':Cs),Zcv (b,s)=some (c,s')/\cellL c/\0<=s'.1:=by
 unfold Zcv
 obtain⟨c,s1,e1,l1,k1⟩:=l8Draw_ok (s:=(s.1,s.2)) hb hs
 simp only[e1,bnd_s]
 obtain⟨v2,s2,e2,l2,_,k2⟩:=l1Below_ok (s:=(s1.1,s1.2)) 6 hb k1
 simp only[e2,bnd_s,iEq_x]
 by_cases c0:(v2:Int)=0
 ·rw[decide_eq_true c0,cnd_t]
  obtain⟨v,s3,e3,h3,k3⟩:=l3Any_ok (s:=(s2.1,s2.2)) hb k2
  simp only[e3,bnd_s,joinX_l]
  exact⟨_,_,rfl,l1,k3⟩
 rw[decide_eq_false c0,cnd_f]
 by_cases c1:(v2:Int)=1
 ·rw[decide_eq_true c1,cnd_t]
  obtain⟨v,s3,e3,h3,k3⟩:=l5Bytes_ok (s:=(s2.1,s2.2)) c.1 hb k2
  simp only[e3,bnd_s,joinX_l]
  exact⟨_,_,rfl,h3,k3⟩
 rw[decide_eq_false c1,cnd_f]
 by_cases c2:(v2:Int)=2
 ·rw[decide_eq_true c2,cnd_t]
  obtain⟨v3,s3,e3,l3,_,k3⟩:=l1Below_ok (s:=(s2.1,s2.2)) 3 hb k2
  have l3:=l3 (by omega)
  simp only[e3,bnd_s]
  have ea:iAdd .i64 19 (v3:Int)=((19+v3:Nat):Int):=by rw[iAdd_ok (by omega) (by omega)];omega
  rw[ea]
  simp only[decide_true,chk_t]
  rw[mkOk_ok (by omega) (by omega),chk_t,joinX_l]
  exact⟨_,_,rfl,by unfold cellL;simp only[nOf_n,lRep,List.length_replicate];omega,k3⟩
 ·rw[decide_eq_false c2,cnd_f,joinX_l]
  exact⟨_,_,rfl,l1,k2⟩
theorem big_y {x:List UInt8}(h:1048576<x.length):Zbl x=some true:=by unfold Zbl;rw[iGt_y (by simp only[lLen_def];omega)]
theorem big_n {x:List UInt8}(h:x.length<=1048576):Zbl x=some false:=by unfold Zbl;rw[iGt_n (by simp only[lLen_def];omega)]
@[simp] theorem bEq_r (a:Bool):bEq a a=true:=by cases a<;>rfl
theorem sameCell_r (c:Cell):Zw (c,c)=some true:=by unfold Zw;simp only[iEq_r,cnd_t,sEq_r]
theorem text_of {cs:Int}{t:List UInt8}{c:Cell}(h:cellOf cs t=some c):cellText c=some t/\c.1=cs:=by
 unfold cellOf at h
 cases he:encV cs t with
 | none=>rw[he]at h;cases h
 | some b =>
  rw[he]at h
  have hc:=encV_cs he
  unfold encV at he
  rw[if_pos hc]at he
  simp only at h
  split at h
  ·rename_i hl
   simp only[Option.some.injEq]at h;subst h
   refine⟨?_,rfl⟩
   unfold cellText cellOk
   rw[if_pos (by simp [hc,hl])]
   exact decode_of_encode (by omega) he
  ·cases h
end
end Go.Vs
