import Derived.Test.YtmpopjdcbabchaaGreatDoorVsW5
import Derived.Test.YtmpopjdcbabchaaGreatDoorVsQu2
set_option linter.all false
namespace Go.Vs
noncomputable section
theorem s_Signs {x:List UInt8}(hl:x.length<=1048576):Zdd x=some (sgnR (signsL 0 x)):=by
 unfold Zdd
 obtain⟨r,h1,h2⟩:=loop_meas (step:=Zff x) (fun s=>∃(i:Nat) (ms:List Nat),s=(ms.map (fun (n:Nat)=>(n:Int)),(i:Int))/\i<=x.length/\ms.length<=i/\signsL 0 x=(signsL 0 (x.drop i)).map (ms++·)) (fun s=>x.length-s.2.toNat) (fun r=>joinX (some r) (fun (z1:(List Int))=>(some (z1,true)))=some (sgnR (signsL 0 x))) (by
  rintro s ⟨i,ms,rfl,hi,hm,hx⟩
  unfold Zff
  simp only
  by_cases hlt:i<x.length
  ·rw[iLt_y (by rw[lLen_def];omega),cnd_t,s_GetSign (by omega) hlt,bnd_s]
   have hne:x.drop i≠[]:=by rw[idx_d hlt];exact List.cons_ne_nil _ _
   rw[signsL_step (by omega) hne,show signIn 0 (x.drop i)=dec (x.drop i) from rfl]at hx
   cases hd:dec (x.drop i) with
   | none =>
    rw[hd]at hx
    right
    simp only[getR,bNot_f,cnd_t]
    exact⟨_,rfl,by rw[hx];rfl⟩
   | some v =>
    obtain⟨n,k⟩:=v
    rw[hd]at hx
    have hk:=(enc_dec hd).2.2
    rw[List.length_drop]at hk
    left
    simp only[getR,bNot_t,cnd_f]
    rw[room_ok (by rw[List.length_map];omega),chk_t]
    refine⟨_,rfl,⟨i+k,ms++[n], ?_,by omega,by rw[List.length_append,List.length_cons,List.length_nil];omega, ?_⟩, ?_⟩
    ·simp [lApp]
    ·rw[hx]
     simp only[Option.map_map,List.drop_drop]
     congr 1
     funext q
     simp
    ·simp only;omega
  ·right
   rw[iLt_n (by rw[lLen_def];omega),cnd_f]
   have e:x.drop i=[]:=List.drop_eq_nil_of_le (by omega)
   rw[e,signsL_nil]at hx
   refine⟨_,rfl, ?_⟩
   rw[hx,joinX_l];simp [sgnR]) ([],0) ⟨0,[],rfl,Nat.zero_le _,Nat.le_refl _,by simp⟩
 rw[h1];exact h2
theorem sign_loop {cs n:Nat}{step:Int->Option (Int ⊕ (Unit ⊕ (Int×Bool)))}(hs:∀i:Nat,i<256->step (i:Int)=some (if byteSign cs i=some n then .inr (.inr ((i:Int),true)) else .inl ((i+1:Nat):Int))) (he:step 256=some (.inr (.inl ()))) :
  ∀(k b:Nat),b+k=256->joinX (loopX step (b:Int)) (fun (_:Unit)=>some ((0:Int),false))=some (bsR (signFrom cs n k b))
 | 0,b,h=>by
  obtain rfl:b=256:=by omega
  rw[loop_stop (show step ((256:Nat):Int)=_ from he),joinX_l];rfl
 | k+1,b,h=>by
  have:=hs b (by omega)
  simp only[signFrom]
  by_cases hb:byteSign cs b=some n
  ·rw[if_pos hb]at this ⊢
   rw[loop_stop this,joinX_r];rfl
  ·rw[if_neg hb]at this ⊢
   rw[loop_next this]
   exact sign_loop hs he k (b+1) (by omega)
theorem sb_step {cs n i:Nat}:cnd (bsR (byteSign cs i)).2 (cnd (iEq (bsR (byteSign cs i)).1 (n:Int)) (some (.inr (.inr ((i:Int),true)))) (some (.inl (iAdd .i64 (i:Int) 1)))) (some (.inl (iAdd .i64 (i:Int) 1)))=some (if byteSign cs i=some n then .inr (.inr ((i:Int),true)) else .inl (iAdd .i64 (i:Int) 1):Int ⊕ (Unit ⊕ (Int×Bool))):=by
 cases h:byteSign cs i with
 | none=>rfl
 | some m =>
  simp only[bsR,cnd_t,Option.some.injEq]
  by_cases hm:m=n
  ·rw[if_pos hm,hm,iEq_r,cnd_t]
  ·rw[if_neg hm,iEq_n (by omega),cnd_f]
theorem s_SignByte {cs n:Nat}(h1:1<=cs) (h4:cs<=4):Zde ((cs:Int),(n:Int))=some (bsR (signByte cs n)):=by
 unfold Zde signByte
 refine sign_loop (cs:=cs) (n:=n) (fun i hi=>?_) rfl 256 0 rfl
 unfold Zgf
 simp only
 rw[iLt_y (by omega),cnd_t,s_ByteSign h1 h4 hi,bnd_s,sb_step,iAdd_ok (by omega) (by omega)]
 rfl
def Put (o:Option (List UInt8×Bool)) (l:List UInt8) (p:Option (List UInt8)):Prop:=match p with
 | some b=>o=some (l++b,true)
 | none=>∃q,o=some (q,false)
theorem s_PutEuc {l:List UInt8}{n:Nat}(hl:l.length<=1048576000):Put (Zbv (l,(n:Int))) l (eucPut n):=by
 unfold Zbv eucPut Zfg
 simp only[s_In,bnd_s]
 rw[room_ok (by omega),chk_t]
 by_cases h1:n<128
 ·rw[decide_eq_true (by omega),cnd_t,if_pos h1,room_ok (by simp only[lApp,List.nil_append];omega),chk_t,conv_u8];rfl
 rw[decide_eq_false (by omega),cnd_f,if_neg h1]
 by_cases h2:0x3041<=n/\n<=0x3093
 ·rw[decide_eq_true (by omega),cnd_t,bnd_s,if_pos h2]
  simp only[bNot_t,cnd_f]
  rw[room_ok (by simp only[lApp,List.nil_append];omega),chk_t,iSub_ok (by omega) (by omega),iAdd_ok (by omega) (by omega),show (n:Int)-12353+161=((n-0x3041+0xa1:Nat):Int) by omega,conv_u8];rfl
 rw[decide_eq_false (by omega),cnd_f,if_neg h2]
 by_cases h3:0x30a1<=n/\n<=0x30f6
 ·rw[decide_eq_true (by omega),cnd_t,bnd_s,if_pos h3]
  simp only[bNot_t,cnd_f]
  rw[room_ok (by simp only[lApp,List.nil_append];omega),chk_t,iSub_ok (by omega) (by omega),iAdd_ok (by omega) (by omega),show (n:Int)-12449+161=((n-0x30a1+0xa1:Nat):Int) by omega,conv_u8];rfl
 ·rw[decide_eq_false (by omega),cnd_f,bnd_s,if_neg h3]
  exact⟨_,rfl⟩
theorem sgn_yes {n:Nat}(h:isSign n=true):sgn (n:Int)=true:=by simp [sgn,h]
theorem s_Put {cs n:Nat}{l:List UInt8}(hc:cs<=5) (hn:isSign n=true) (hl:l.length<=1048576000):Put (Zbw ((cs:Int),(l,(n:Int)))) l (putIn cs n):=by
 unfold Zbw putIn
 simp only
 by_cases h0:cs=0
 ·subst h0
  rw[show iEq ((0:Nat):Int) 0=true from rfl,cnd_t,if_pos rfl,if_pos hn,s_PutSign (by omega),bnd_s,s_SignOk,bnd_s,sgn_yes hn];simp [Put]
 rw[iEq_n (by omega),cnd_f,if_neg h0]
 by_cases h5:cs=5
 ·subst h5
  rw[show iEq ((5:Nat):Int) 5=true from rfl,cnd_t,if_pos rfl]
  have:=s_PutEuc (l:=l) (n:=n) hl
  cases hp:eucPut n with
  | none=>rw[hp]at this;obtain⟨q,e⟩:=this;rw[e];exact⟨q,rfl⟩
  | some b=>rw[hp]at this;rw[show Zbv (l,(n:Int))=_ from this];rfl
 rw[iEq_n (by omega),cnd_f,if_neg h5,s_SignByte (by omega) (by omega),bnd_s]
 cases h:signByte cs n with
 | none =>
  simp only[bsR,bNot_f,cnd_t]
  rw[room_ok (by omega),chk_t];exact⟨_,rfl⟩
 | some b =>
  simp only[bsR,bNot_t,cnd_f]
  rw[room_ok (by omega),chk_t,room_ok (by simp only[lApp,List.nil_append];omega),chk_t,conv_u8];rfl
theorem putIn_len {cs n:Nat}{b:List UInt8}(hc:cs<=5) (h:putIn cs n=some b):b.length<=4:=(put_sign hc h []).2.2
theorem encode_loop {cs:Nat}(hc:cs<=5){ns:List Nat}(hns:∀n∈ns,isSign n=true) (hl:ns.length<=1048576){P:Int×List UInt8×Int->Option (List UInt8×Bool)}(hP:∀{n:Nat}{l:List UInt8},isSign n=true->l.length<=1048576000->Put (P ((cs:Int),(l,(n:Int)))) l (putIn cs n))
  {step:List UInt8×Int->Option ((List UInt8×Int) ⊕ (List UInt8 ⊕ (List UInt8×Bool)))} (hs:∀(out:List UInt8) (i:Nat) (h:i<ns.length),step (out,(i:Int))=bnd (P ((cs:Int),(out,(ns[i]:Int)))) (fun z5=>cnd (bNot z5.2) (some (.inr (.inr ([],false)))) (some (.inl (z5.1,(iAdd .i64 (i:Int) 1)))))) (he:∀out,step (out,(ns.length:Int))=some (.inr (.inl out))) :
  joinX (loopX step ([],0)) (fun z3=>some (z3,true))=some (optR (putAll cs ns)):=by
 have key:∀(k i:Nat) (out:List UInt8),i+k=ns.length->out.length<=4*i->joinX (loopX step (out,(i:Int))) (fun z3=>some (z3,true))=some (optR ((putAll cs (ns.drop i)).map (out++·))):=by
  intro k
  induction k with
  | zero =>
   intro i out hi ho
   obtain rfl:i=ns.length:=by omega
   rw[loop_stop (he out),joinX_l,List.drop_length]
   simp [putAll,optR]
  | succ k ih =>
   intro i out hi ho
   have hlt:i<ns.length:=by omega
   have h1:=hs out i hlt
   have hp:=hP (n:=ns[i]) (l:=out) (hns _ (List.getElem_mem hlt)) (by omega)
   rw[List.drop_eq_getElem_cons hlt]
   simp only[putAll]
   cases hb:putIn cs ns[i] with
   | none =>
    rw[hb]at hp
    obtain⟨q,e⟩:=hp
    rw[e,bnd_s]at h1
    simp only[bNot_f,cnd_t]at h1
    rw[loop_stop h1,joinX_r];rfl
   | some b =>
    rw[hb]at hp
    rw[show P ((cs:Int),(out,(ns[i]:Int)))=_ from hp,bnd_s]at h1
    simp only[bNot_t,cnd_f]at h1
    rw[iAdd_ok (by omega) (by omega)]at h1
    have hbl:=putIn_len hc hb
    rw[loop_next h1,show (i:Int)+1=((i+1:Nat):Int) by omega,ih (i+1) (out++b) (by omega) (by rw[List.length_append];omega)]
    cases putAll cs (ns.drop (i+1)) with
    | none=>rfl
    | some r=>simp [optR]
 have:=key ns.length 0 [] (by omega) (by simp)
 rw[List.drop_zero]at this
 rw[show (0:Int)=((0:Nat):Int) from rfl,this]
 cases putAll cs ns with
 | none=>rfl
 | some r=>simp
theorem signs_ok {x:List UInt8}{ns:List Nat}(h:signsL 0 x=some ns):(∀n∈ns,isSign n=true)/\ns.length<=x.length:=by
 obtain⟨h1,h2⟩:=putAll_of (cs:=0) (by omega) _ (Nat.le_refl _) h
 exact⟨h2,putAll_len (by omega) h1⟩
def encV (cs:Int) (x:List UInt8):Option (List UInt8):=if 0<=cs/\cs<=5 then encodeT cs.toNat x else none
theorem s_Encode {cs:Int}{x:List UInt8}(hl:x.length<=1048576):Zbx (cs,x)=some (optR (encV cs x)):=by
 unfold Zbx Zbc encV
 simp only[s_Signs hl,bnd_s,s_In]
 by_cases hc:0<=cs/\cs<=5
 ·rw[decide_eq_true hc,bNot_t,cnd_f,if_pos hc]
  obtain⟨c,rfl⟩:=Int.eq_ofNat_of_zero_le hc.1
  unfold encodeT
  rw[Int.toNat_natCast]
  cases hs:signsL 0 x with
  | none=>rfl
  | some ns =>
   obtain⟨a,b⟩:=signs_ok hs
   simp only[sgnR,bNot_t,cnd_f,Option.bind_some]
   refine encode_loop (by omega) a (by omega) (P:=Zbw) (fun hn hl=>s_Put (by omega) hn hl) (fun out i hi=>?_) fun out=>?_
   ·unfold Zfh
    simp only
    rw[iLt_y (by simp only[lLen_def,List.length_map];omega),cnd_t,idx_at (by rw[List.length_map];exact hi),bnd_s]
    simp only[List.getElem_map]
   ·unfold Zfh
    simp only
    rw[iLt_n (by simp only[lLen_def,List.length_map];omega),cnd_f]
 ·rw[decide_eq_false hc,bNot_f,cnd_t,if_neg hc];rfl
end
end Go.Vs
