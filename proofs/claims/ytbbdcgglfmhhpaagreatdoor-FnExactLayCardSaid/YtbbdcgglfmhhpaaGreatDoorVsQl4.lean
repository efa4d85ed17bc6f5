import Derived.Test.YtbbdcgglfmhhpaaGreatDoorVsW5
import Derived.Test.YtbbdcgglfmhhpaaGreatDoorVsQl3
set_option linter.all false
namespace Go.Vs
noncomputable section
theorem find_loop {α σ ρ : Type} {step : σ → Option (σ ⊕ ρ)} (st : Nat → σ) (x : List α) (p : α → Bool) (found : Nat → ρ) (no : ρ)
    (hs : ∀ (i : Nat) (h : i < x.length), step (st i) = if p x[i] = true then some (.inr (found i)) else some (.inl (st (i + 1)))) (he : step (st x.length) = some (.inr no)) (s0 : σ) (h0 : s0 = st 0) :
    loopX step s0 = some (match x.findIdx? p with | some i => found i | none => no) := by
  obtain ⟨r, h1, h2⟩ := loop_inv (step := step) (fun i s => s = st i ∧ ∀ (j : Nat) (h : j < x.length), j < i → p x[j] = false) x.length (fun r => r = match x.findIdx? p with | some i => found i | none => no)
    (fun i s hi h => by
      obtain ⟨rfl, hp⟩ := h
      rw [hs i hi]
      by_cases hq : p x[i] = true
      · refine .inr ⟨_, by rw [if_pos hq], ?_⟩
        have : x.findIdx? p = some i := by
          rw [List.findIdx?_eq_some_iff_getElem]
          exact ⟨hi, hq, fun j hj => by simpa using hp j (by omega) hj⟩
        rw [this]
      · refine .inl ⟨_, by rw [if_neg hq], rfl, fun j hj hji => ?_⟩
        by_cases e : j = i
        · subst e; simpa using hq
        · exact hp j hj (by omega))
    (fun s h => by
      obtain ⟨rfl, hp⟩ := h
      refine ⟨_, he, ?_⟩
      have : x.findIdx? p = none := by
        rw [List.findIdx?_eq_none_iff]
        intro y hy
        obtain ⟨j, hj, rfl⟩ := List.getElem_of_mem hy
        exact hp j hj hj
      rw [this]) s0 ⟨h0, fun j _ h => absurd h (Nat.not_lt_zero _)⟩
  rw [h1, h2]
theorem all_loop {α σ ρ:Type}{step:σ->Option (σ ⊕ ρ)}(st:Nat->σ) (x:List α) (p:α->Bool) (no yes:ρ)
  (hs:∀(i:Nat) (h:i<x.length),step (st i)=if p x[i]=true then some (.inl (st (i+1))) else some (.inr no)) (he:step (st x.length)=some (.inr yes)) (s0:σ) (h0:s0=st 0) :
  loopX step s0=some (if x.all p=true then yes else no):=by
 rw[find_loop (step:=step) st x (fun a=>!p a) (fun _=>no) yes (fun i hi=>by
  rw[hs i hi]
  cases p x[i]<;>rfl) he s0 h0]
 cases hq:x.findIdx? (fun a=>!p a) with
 | none =>
  rw[List.findIdx?_eq_none_iff]at hq
  rw[if_pos (List.all_eq_true.2 fun a ha=>by simpa using hq a ha)]
 | some i =>
  rw[List.findIdx?_eq_some_iff_getElem]at hq
  obtain⟨h1,h2,_⟩:=hq
  rw[if_neg (fun h=>by
   have:=List.all_eq_true.1 h _ (List.getElem_mem h1)
   rw[this]at h2
   cases h2)]
theorem joinX_if {ρ:Type}(c:Prop) [Decidable c] (r:ρ) (k:Unit->Option ρ):joinX (some (if c then (Sum.inl ():Unit ⊕ ρ) else .inr r)) k=if c then k () else some r:=by
 split<;>rfl
def secB (b:List UInt8):Bool:=decide (b.length<=120)
def wrB (m:Int) (w:Wr):Bool:=decide (0<=w.1/\w.1<=m)&&decide (w.2.length<=120)
theorem devOk_eq (secs:List (List UInt8)) (cache:List Wr) (fuse:Int):devOk secs cache fuse=(decide (1<=(secs.length:Int)/\(secs.length:Int)<=64)&&decide ((cache.length:Int)<=40)&&decide (-1<=fuse/\fuse<=1000)&&secs.all secB&&cache.all (wrB ((secs.length:Int)-1))):=by
 rw[Bool.eq_iff_iff]
 simp only[devOk,Bool.and_eq_true,decide_eq_true_eq,List.all_eq_true,secB,wrB]
 constructor
 ·rintro ⟨a,b,c,d,e⟩
  exact⟨⟨⟨⟨⟨by omega,by omega⟩,by omega⟩,c⟩,d⟩,fun w hw=>⟨⟨(e w hw).1,(e w hw).2.1⟩,(e w hw).2.2⟩⟩
 ·rintro ⟨⟨⟨⟨a,b⟩,c⟩,d⟩,e⟩
  exact⟨⟨by omega,by omega⟩,by omega,c,d,fun w hw=>⟨(e w hw).1.1,(e w hw).1.2,(e w hw).2⟩⟩
theorem i_DevOk {x:Dv}(h:SmD x):Zy x=some (devOk x.1 x.2.1 x.2.2.1):=by
 obtain⟨secs,cache,fuse,down⟩:=x
 obtain⟨h1,h2,h3,h4⟩:=h
 simp only at h1 h2 h3 h4
 have es:iSub .i64 (lLen secs) 1=(secs.length:Int)-1:=iSub_ok (by simp only[lLen_def];omega) (by simp only[lLen_def];omega)
 unfold Zy
 simp only[lLen_def]
 rw[i_In,bnd_s,devOk_eq]
 by_cases ha:1<=(secs.length:Int)/\(secs.length:Int)<=64
 case neg=>rw[decide_eq_false ha,bNot_f,cnd_t];simp
 rw[decide_eq_true ha,bNot_t,cnd_f]
 by_cases hb:(cache.length:Int)<=40
 case neg=>rw[iGt_y (by omega),cnd_t,decide_eq_false hb];simp
 rw[iGt_n hb,cnd_f,decide_eq_true hb,i_In,bnd_s]
 by_cases hc:-1<=fuse/\fuse<=1000
 case neg=>rw[decide_eq_false hc,bNot_f,cnd_t];simp
 rw[decide_eq_true hc,bNot_t,cnd_f]
 rw[all_loop (step:=Zga (secs,(cache,(fuse,down)))) (fun i=>(i:Int)) secs secB (.inr false) (.inl ()) (fun i hi=>by
  unfold Zga
  simp only
  rw[iLt_y (by simp only[lLen_def];omega),cnd_t,idx_at hi,bnd_s,iAdd_1 (by omega)]
  unfold secB
  by_cases hb:secs[i].length<=120
  ·rw[iGt_n (by simp only[lLen_def];omega),cnd_f,decide_eq_true hb,if_pos (by simp)]
  ·rw[iGt_y (by simp only[lLen_def];omega),cnd_t,decide_eq_false hb,if_neg (by simp)]) (by
  unfold Zga
  simp only
  rw[iLt_n (by simp only[lLen_def];omega),cnd_f]) (0:Int) rfl,joinX_if]
 split
 case isFalse hn =>
  have:secs.all secB=false:=by simpa using hn
  rw[this];simp
 rename_i hy
 rw[all_loop (step:=Zgb (secs,(cache,(fuse,down)))) (fun i=>(i:Int)) cache (wrB ((secs.length:Int)-1)) false true (fun i hi=>by
  unfold Zgb
  simp only
  rw[iLt_y (by simp only[lLen_def];omega),cnd_t,idx_at hi,bnd_s,es,i_In,bnd_s,iAdd_1 (by omega)]
  unfold wrB
  by_cases ha:0<=cache[i].1/\cache[i].1<=(secs.length:Int)-1
  ·rw[decide_eq_true ha,bNot_t,cnd_f]
   by_cases hb:cache[i].2.length<=120
   ·rw[iGt_n (by simp only[lLen_def];omega),cnd_f,decide_eq_true hb,if_pos (by simp)]
   ·rw[iGt_y (by simp only[lLen_def];omega),cnd_t,decide_eq_false hb,if_neg (by simp)]
  ·rw[decide_eq_false ha,bNot_f,cnd_t,if_neg (by simp)]) (by
  unfold Zgb
  simp only
  rw[iLt_n (by simp only[lLen_def];omega),cnd_f]) (0:Int) rfl,hy]
 cases cache.all (wrB ((secs.length:Int)-1))<;>simp
theorem s_DevOk {x:Dv}(h:SmD x):Zcp x=some (devOk x.1 x.2.1 x.2.2.1):=by
 obtain⟨secs,cache,fuse,down⟩:=x
 obtain⟨h1,h2,h3,h4⟩:=h
 simp only at h1 h2 h3 h4
 have es:iSub .i64 (lLen secs) 1=(secs.length:Int)-1:=iSub_ok (by simp only[lLen_def];omega) (by simp only[lLen_def];omega)
 unfold Zcp
 simp only
 rw[all_loop (step:=Zfr (secs,(cache,(fuse,down)))) (fun i=>(i:Int)) secs secB (.inr false) (.inl ()) (fun i hi=>by
  unfold Zfr
  simp only
  rw[iLt_y (by simp only[lLen_def];omega),cnd_t,idx_at hi,bnd_s,iAdd_1 (by omega)]
  unfold secB
  by_cases hb:secs[i].length<=120
  ·rw[iGt_n (by simp only[lLen_def];omega),cnd_f,decide_eq_true hb,if_pos (by simp)]
  ·rw[iGt_y (by simp only[lLen_def];omega),cnd_t,decide_eq_false hb,if_neg (by simp)]) (by
  unfold Zfr
  simp only
  rw[iLt_n (by simp only[lLen_def];omega),cnd_f]) (0:Int) rfl,joinX_if]
 rw[devOk_eq]
 split
 case isFalse hn =>
  have:secs.all secB=false:=by simpa using hn
  rw[this];simp
 rename_i hy
 rw[all_loop (step:=Zfs (secs,(cache,(fuse,down)))) (fun i=>(i:Int)) cache (wrB ((secs.length:Int)-1)) (.inr false) (.inl ()) (fun i hi=>by
  unfold Zfs
  simp only
  rw[iLt_y (by simp only[lLen_def];omega),cnd_t,idx_at hi,bnd_s,es,s_In,bnd_s,bnd_s,iAdd_1 (by omega)]
  unfold wrB
  by_cases ha:0<=cache[i].1/\cache[i].1<=(secs.length:Int)-1
  ·rw[decide_eq_true ha,bNot_t,cnd_f]
   by_cases hb:cache[i].2.length<=120
   ·rw[iGt_n (by simp only[lLen_def];omega),cnd_f,decide_eq_true hb,if_pos (by simp)]
   ·rw[iGt_y (by simp only[lLen_def];omega),cnd_t,decide_eq_false hb,if_neg (by simp)]
  ·rw[decide_eq_false ha,bNot_f,cnd_t,if_neg (by simp)]) (by
  unfold Zfs
  simp only
  rw[iLt_n (by simp only[lLen_def];omega),cnd_f]) (0:Int) rfl,joinX_if]
 split
 case isFalse hn =>
  have:cache.all (wrB ((secs.length:Int)-1))=false:=by simpa using hn
  rw[this];simp
 rename_i hz
 simp only[lLen_def]
 rw[s_In,bnd_s,hy,hz]
 simp only[Bool.and_true]
 by_cases ha:1<=(secs.length:Int)/\(secs.length:Int)<=64
 case neg=>rw[decide_eq_false ha,cnd_f];simp
 rw[decide_eq_true ha,cnd_t]
 by_cases hb:(cache.length:Int)<=40
 case neg=>rw[iLe_n (by omega),cnd_f,decide_eq_false hb];simp
 rw[iLe_y hb,cnd_t,s_In,bnd_s,decide_eq_true hb]
 simp
theorem app_loop {α β ρ:Type}{step:List β×Int->Option ((List β×Int) ⊕ (List β ⊕ ρ))}{x:List α}{f:α->β}{l0:List β}(hs:∀(l:List β) (i:Nat) (h:i<x.length),l.length=l0.length+i->step (l,(i:Int))=some (.inl (l++[f x[i]],(i:Int)+1))) (he:∀l,step (l,(x.length:Int))=some (.inr (.inl l))):loopX step (l0,0)=some (.inl (l0++x.map f)):=by
 refine loop_exact (fun i=>(l0++(x.take i).map f,(i:Int))) x.length _ ?_ ?_ _ (by simp)
 ·intro i hi
  rw[hs _ i hi (by simp;omega)]
  have e:(x.take (i+1)).map f=(x.take i).map f++[f x[i]]:=by
   rw[List.take_succ_eq_append_getElem hi,List.map_append];rfl
  rw[e,<-List.append_assoc]
  rfl
 ·rw[he];simp
theorem i_Copy {x:Dv}(h:SmD x):Zx x=some x:=by
 obtain⟨secs,cache,fuse,down⟩:=x
 obtain⟨h1,h2,h3,h4⟩:=h
 simp only at h1 h2 h3 h4
 unfold Zx
 simp only
 rw[app_loop (step:=Zfy (secs,(cache,(fuse,down)))) (x:=secs) (f:=fun b=>b) (l0:=[]) (fun l i hi hl=>by
  have:=h2 _ (List.getElem_mem hi)
  simp only[List.length_nil,Nat.zero_add]at hl
  unfold Zfy
  simp only
  rw[iLt_y (by simp only[lLen_def];omega),cnd_t,idx_at hi,bnd_s,joined1_ok (by omega),bnd_s,room_ok (by omega),chk_t,iAdd_1 (by omega)]
  rfl) (fun l=>by
  unfold Zfy
  simp only
  rw[iLt_n (by simp only[lLen_def];omega),cnd_f]),joinX_l]
 rw[app_loop (step:=Zfz (secs,(cache,(fuse,down)))) (x:=cache) (f:=fun b=>b) (l0:=[]) (fun l i hi hl=>by
  have:=h4 _ (List.getElem_mem hi)
  simp only[List.length_nil,Nat.zero_add]at hl
  unfold Zfz
  simp only
  rw[iLt_y (by simp only[lLen_def];omega),cnd_t,idx_at hi,bnd_s,joined1_ok (by omega),bnd_s,room_ok (by omega),chk_t,iAdd_1 (by omega)]
  rfl) (fun l=>by
  unfold Zfz
  simp only
  rw[iLt_n (by simp only[lLen_def];omega),cnd_f]),joinX_l]
 simp
theorem s_Copy {x:Dv}(h:SmD x):Zcm x=some x:=by
 obtain⟨secs,cache,fuse,down⟩:=x
 obtain⟨h1,h2,h3,h4⟩:=h
 simp only at h1 h2 h3 h4
 unfold Zcm
 simp only
 rw[app_loop (step:=Zfp (secs,(cache,(fuse,down)))) (x:=secs) (f:=fun b=>b) (l0:=[]) (fun l i hi hl=>by
  have:=h2 _ (List.getElem_mem hi)
  simp only[List.length_nil,Nat.zero_add]at hl
  unfold Zfp
  simp only
  rw[iLt_y (by simp only[lLen_def];omega),cnd_t,idx_at hi,bnd_s,room_ok (by omega),chk_t,room_ok (by omega),chk_t,iAdd_1 (by omega)]
  rfl) (fun l=>by
  unfold Zfp
  simp only
  rw[iLt_n (by simp only[lLen_def];omega),cnd_f]),joinX_l]
 rw[app_loop (step:=Zfq (secs,(cache,(fuse,down)))) (x:=cache) (f:=fun b=>b) (l0:=[]) (fun l i hi hl=>by
  have:=h4 _ (List.getElem_mem hi)
  simp only[List.length_nil,Nat.zero_add]at hl
  unfold Zfq
  simp only
  rw[iLt_y (by simp only[lLen_def];omega),cnd_t,idx_at hi,bnd_s,bnd_s,room_ok (by omega),chk_t,room_ok (by omega),chk_t,iAdd_1 (by omega)]
  rfl) (fun l=>by
  unfold Zfq
  simp only
  rw[iLt_n (by simp only[lLen_def];omega),cnd_f]),joinX_l]
 simp
def wrD (x:Dv) (n:Int) (b:List UInt8):Dv:=(x.1,wrDev x.1 x.2.1 x.2.2.1 x.2.2.2 n b)
def dOk (x:Dv):Bool:=devOk x.1 x.2.1 x.2.2.1
def flD (x:Dv):Dv:=flDev x.1 x.2.1 x.2.2.1 x.2.2.2
theorem s_Op {secs:List (List UInt8)}{cache:List Wr}{fuse:Int}{down:Bool}(hf:-1<=fuse/\fuse<=1000):Zcc (secs,(cache,(fuse,down)))=some (opR fuse,(opF fuse,opD fuse down)):=by
 unfold Zcc opR opF opD
 simp only[iEq_x]
 by_cases h0:fuse=0
 ·subst h0;rfl
 rw[decide_eq_false h0,cnd_f,if_neg h0,if_neg h0,show (fuse==0)=false by simp [h0]]
 by_cases h1:0<fuse
 ·rw[iGt_y h1,cnd_t,if_pos h1,iSub_ok (by omega) (by omega)];rfl
 ·rw[iGt_n (by omega),cnd_f,if_neg h1];rfl
theorem i_burn {x:Dv}(hf:-1<=x.2.2.1/\x.2.2.1<=1000):Zde x=some ((x.1,x.2.1,opF x.2.2.1,opD x.2.2.1 x.2.2.2),opR x.2.2.1):=by
 obtain⟨secs,cache,fuse,down⟩:=x
 simp only at hf
 unfold Zde opR opF opD
 simp only[iEq_x]
 by_cases h0:fuse=0
 ·subst h0;rfl
 rw[decide_eq_false h0,cnd_f,if_neg h0,if_neg h0,show (fuse==0)=false by simp [h0]]
 by_cases h1:0<fuse
 ·rw[iGt_y h1,cnd_t,if_pos h1,joinX_l,iSub_ok (by omega) (by omega)];rfl
 ·rw[iGt_n (by omega),cnd_f,if_neg h1,joinX_l];rfl
theorem s_Write {x:Dv}{n:Int}{b:List UInt8}(h:SmD x) (hf:-1<=x.2.2.1/\x.2.2.1<=1000) (hb:b.length<=1048576):Zr (x,(n,b))=some (wrC x.1 x.2.1 x.2.2.1 x.2.2.2 n b):=by
 obtain⟨secs,cache,fuse,down⟩:=x
 obtain⟨h1,h2,h3,h4⟩:=h
 simp only at h1 h2 h3 h4 hf
 have es:iSub .i64 (lLen secs) 1=(secs.length:Int)-1:=iSub_ok (by simp only[lLen_def];omega) (by simp only[lLen_def];omega)
 unfold Zr
 simp only[es]
 cases down with
 | true=>rw[cnd_t,wrC_no (.inl rfl)]
 | false =>
 rw[cnd_f,s_In,bnd_s]
 by_cases ha:0<=n/\n<=(secs.length:Int)-1
 case neg=>rw[decide_eq_false ha,bNot_f,cnd_t,wrC_no (.inr (.inl ha))]
 rw[decide_eq_true ha,bNot_t,cnd_f]
 by_cases hc:b.length<=120
 case neg=>rw[iGt_y (by simp only[lLen_def];omega),cnd_t,wrC_no (.inr (.inr (.inl (by omega))))]
 rw[iGt_n (by simp only[lLen_def];omega),cnd_f]
 by_cases hd:cache.length<40
 case neg=>rw[iGe_y (by simp only[lLen_def];omega),cnd_t,wrC_no (.inr (.inr (.inr (by omega))))]
 rw[iGe_n (by simp only[lLen_def];omega),cnd_f,s_Op hf,bnd_s]
 have hno:¬(false=true\/¬(0<=n/\n<=(secs.length:Int)-1)\/120<b.length\/40<=cache.length):=by
  rintro (h|h|h|h)
  ·cases h
  ·exact h ha
  ·omega
  ·omega
 by_cases h0:fuse=0
 ·obtain⟨e1,e2,e3⟩:=op_zero (down:=false) h0
  simp only[e1,e2,e3,bNot_f,cnd_t]
  rw[wrC_zero hno h0]
 ·obtain⟨e2,e3⟩:=op_pos (down:=false) h0
  simp only[e2,e3,bNot_t,cnd_f]
  rw[room_ok (by omega),chk_t,room_ok (by omega),chk_t,wrC_yes hno h0]
  rfl
theorem dOk_sm {x:Dv}(h:dOk x=true):SmD x:=by
 obtain⟨⟨a,b⟩,c,d,e,f⟩:=dev_of h
 exact⟨by omega,fun b hb=>by have:=e b hb;omega,by omega,fun w hw=>by have:=(f w hw).2.2;omega⟩
theorem i_WriteSec {x:Dv}{n:Int}{b:List UInt8}(h:SmD x) (hb:b.length<=1048576):Zi (x,(n,b))=some (wrD x n b):=by
 have h1:=h.1
 have h3:=h.2.2.1
 have es:iSub .i64 (lLen x.1) 1=(x.1.length:Int)-1:=iSub_ok (by simp only[lLen_def];omega) (by simp only[lLen_def];omega)
 unfold Zi wrD
 simp only[es]
 rw[show Zx (x.1,(x.2.1,(x.2.2.1,x.2.2.2)))=some x from i_Copy h,bnd_s,show Zy (x.1,(x.2.1,(x.2.2.1,x.2.2.2)))=some (devOk x.1 x.2.1 x.2.2.1) from i_DevOk h,bnd_s]
 cases hk:devOk x.1 x.2.1 x.2.2.1 with
 | false=>rw[bNot_f,cnd_t,wrDev_no hk]
 | true =>
  obtain⟨_,d2,d3,_,_⟩:=dev_of hk
  rw[bNot_t,cnd_f,wrDev_ok hk]
  cases hdn:x.2.2.2 with
  | true=>rw[cnd_t,wrC_no (.inl rfl)]
  | false =>
  rw[cnd_f,i_In,bnd_s]
  by_cases ha:0<=n/\n<=(x.1.length:Int)-1
  case neg=>rw[decide_eq_false ha,bNot_f,cnd_t,wrC_no (.inr (.inl ha))]
  rw[decide_eq_true ha,bNot_t,cnd_f]
  by_cases hc:b.length<=120
  case neg=>rw[iGt_y (by simp only[lLen_def];omega),cnd_t,wrC_no (.inr (.inr (.inl (by omega))))]
  rw[iGt_n (by simp only[lLen_def];omega),cnd_f,iEq_x]
  by_cases hd:x.2.1.length=40
  ·rw[decide_eq_true (by simp only[lLen_def];omega),cnd_t,wrC_no (.inr (.inr (.inr (by omega))))]
  rw[decide_eq_false (by simp only[lLen_def];omega),cnd_f]
  have hno:¬(false=true\/¬(0<=n/\n<=(x.1.length:Int)-1)\/120<b.length\/40<=x.2.1.length):=by
   rintro (h|h|h|h)
   ·cases h
   ·exact h ha
   ·omega
   ·omega
  have eb:=i_burn (x:=(x.1,(x.2.1,(x.2.2.1,false)))) d3
  rw[eb,bnd_s]
  simp only
  by_cases h0:x.2.2.1=0
  ·obtain⟨e1,e2,e3⟩:=op_zero (down:=false) h0
   simp only[e1,e2,e3,cnd_f,joinX_l]
   rw[wrC_zero hno h0]
  ·obtain⟨e2,e3⟩:=op_pos (down:=false) h0
   simp only[e2,e3,cnd_t]
   rw[joined1_ok (by omega),bnd_s,room_ok (by omega),chk_t,joinX_l,wrC_yes hno h0]
   rfl
theorem s_Flush {x:Dv}(h:SmD x) (hf:-1<=x.2.2.1/\x.2.2.1<=1000) (hc:∀w∈x.2.1,0<=w.1/\w.1<=(x.1.length:Int)-1):Zs x=some (flC x.1 x.2.1 x.2.2.1 x.2.2.2):=by
 unfold Zs
 have h1:=h.1
 have h3:=h.2.2.1
 rw[decide_eq_true (by exact⟨hf,by omega,by omega,hc⟩),chk_t]
theorem i_FlushDev {x:Dv}(h:SmD x):Zk x=some (flD x):=by
 have h3:=h.2.2.1
 unfold Zk flD
 rw[show Zx (x.1,(x.2.1,(x.2.2.1,x.2.2.2)))=some x from i_Copy h,bnd_s,show Zy (x.1,(x.2.1,(x.2.2.1,x.2.2.2)))=some (devOk x.1 x.2.1 x.2.2.1) from i_DevOk h,bnd_s]
 cases hk:devOk x.1 x.2.1 x.2.2.1 with
 | false=>rw[bNot_f,cnd_t,flDev_no hk]
 | true =>
  obtain⟨_,d2,d3,d4,d5⟩:=dev_of hk
  rw[bNot_t,cnd_f,flDev_ok hk]
  cases hdn:x.2.2.2 with
  | true=>rw[cnd_t,flC_no rfl]
  | false =>
  rw[cnd_f]
  have eb:=i_burn (x:=(x.1,(x.2.1,(x.2.2.1,false)))) d3
  rw[eb,bnd_s]
  simp only
  by_cases h0:x.2.2.1=0
  ·obtain⟨e1,e2,e3⟩:=op_zero (down:=false) h0
   simp only[e1,e2,e3,bNot_f,cnd_t]
   rw[h0,flC_zero rfl]
  ·obtain⟨e2,e3⟩:=op_pos (down:=false) h0
   simp only[e2,e3,bNot_t,cnd_f]
   rw[show loopX (Zgk ((x.1,(x.2.1,(opF x.2.2.1,false))),true)) (x.1,0)=some (.inl (flL x.1 x.2.1)) from loop_exact (fun i=>(flL x.1 (x.2.1.take i),(i:Int))) x.2.1.length _ (fun i hi=>by
    obtain⟨g1,g2,g3⟩:=d5 _ (List.getElem_mem hi)
    obtain⟨k,hk⟩:=Int.eq_ofNat_of_zero_le g1
    have hkl:k<(flL x.1 (x.2.1.take i)).length:=by rw[flL_len];omega
    unfold Zgk
    simp only
    rw[iLt_y (by simp only[lLen_def];omega),cnd_t,idx_at hi,bnd_s,joined1_ok (by omega),bnd_s,hk,idx_at (i:=k) hkl,bnd_s,iAdd_1 (by omega),flL_take hi hk]
    rfl) (by
    unfold Zgk
    simp only
    rw[iLt_n (by simp only[lLen_def];omega),cnd_f,List.take_length]) (x.1,0) rfl,joinX_l,flC_yes h0]
theorem dOk_mk {x:Dv}(h1:1<=x.1.length/\x.1.length<=64) (h2:x.2.1.length<=40) (h3:-1<=x.2.2.1/\x.2.2.1<=1000) (h4:∀b∈x.1,b.length<=120) (h5:∀w∈x.2.1,0<=w.1/\w.1<=(x.1.length:Int)-1/\w.2.length<=120):dOk x=true:=by
 unfold dOk devOk
 exact decide_eq_true ⟨h1,h2,h3,h4,h5⟩
def headB (g n:Int):List UInt8:=(wordB g++wordB n)++wordB (crc (wordB g++wordB n))
def headOk (g n:Int):Bool:=decide (1<=g/\g<=60000)&&decide (0<=n/\n<=30)
def headOf (g n:Int):List UInt8:=if headOk g n=true then headB g n else []
theorem s_HeadOf {g n:Int}:Zcv (g,n)=some (headOf g n):=by
 unfold Zcv headOf headOk
 simp only[s_In,bnd_s]
 by_cases h1:1<=g/\g<=60000
 case neg=>rw[decide_eq_false h1,bNot_f,cnd_t];rfl
 rw[decide_eq_true h1,bNot_t,cnd_f]
 by_cases h2:0<=n/\n<=30
 case neg=>rw[decide_eq_false h2,bNot_f,cnd_t];rfl
 rw[decide_eq_true h2,bNot_t,cnd_f]
 have hc:=crc_lt (wordB g++wordB n)
 rw[s_PutW (by simp) (by omega) (by omega),bnd_s,s_PutW (by simp [wordB]) (by omega) (by omega),bnd_s]
 simp only[List.nil_append]
 rw[s_Sum (by simp [wordB]),bnd_s,s_PutW (by simp [wordB]) (by omega) (by omega)]
 rfl
theorem i_HeadOf {g n:Int}:Zbq (g,n)=some (headOf g n):=by
 unfold Zbq headOf headOk
 simp only[i_In,bnd_s]
 by_cases h1:1<=g/\g<=60000
 case neg=>rw[decide_eq_false h1,bNot_f,cnd_t];rfl
 rw[decide_eq_true h1,bNot_t,cnd_f]
 by_cases h2:0<=n/\n<=30
 case neg=>rw[decide_eq_false h2,bNot_f,cnd_t];rfl
 rw[decide_eq_true h2,bNot_t,cnd_f]
 have hc:=crc_lt (wordB g++wordB n)
 rw[i_PutW (by simp) (by omega) (by omega),bnd_s,i_PutW (by simp [wordB]) (by omega) (by omega),bnd_s]
 simp only[List.nil_append]
 rw[i_Sum (by simp [wordB]),bnd_s,i_PutW (by simp [wordB]) (by omega) (by omega)]
 rfl
theorem headOf_len {g n:Int}:(headOf g n).length=if headOk g n=true then 6 else 0:=by
 unfold headOf
 split<;>rfl
def topRec (z:Int):Rec:=(3,([],(0,[]),(0,[]),0,false),[],z,0,0,0)
end
end Go.Vs
