import Derived.Test.YtmpopjdcbabchaaGreatDoorVsW5
import Derived.Test.YtmpopjdcbabchaaGreatDoorVsQm4
set_option linter.all false
namespace Go.Vs
noncomputable section
theorem sEq_d (a b:List UInt8):sEq a b=(a==b):=rfl
theorem find_loop {α σ ρ : Type} {step : σ → Option (σ ⊕ ρ)} (st : Nat → σ) (x : List α) (p : α → Bool) (found : Nat → ρ) (no : ρ)
    (hs : ∀ (i : Nat) (h : i < x.length), step (st i) = if p x[i] = true then some (.inr (found i)) else some (.inl (st (i + 1)))) (he : step (st x.length) = some (.inr no)) (s0 : σ) (h0 : s0 = st 0) :
    loopX step s0 = some (match x.findIdx? p with | some i => found i | none => no) := by
  obtain ⟨r, h1, h2⟩ := loop_inv (step := step) (fun i s => s = st i ∧ ∀ (j : Nat) (h : j < x.length), j < i → p x[j] = false) x.length (fun r => r = match x.findIdx? p with | some i => found i | none => no)
    (fun i s hi h => by
      obtain ⟨rfl, hp⟩ := h
      rw [hs i hi]
      by_cases hq : p x[i] = true
      · refine .inr ⟨_, by rw [if_pos hq], ?_⟩
        have : x.findIdx? p = some i := by
          rw [List.findIdx?_eq_some_iff_getElem]
          exact ⟨hi, hq, fun j hj => by simpa using hp j (by omega) hj⟩
        rw [this]
      · refine .inl ⟨_, by rw [if_neg hq], rfl, fun j hj hji => ?_⟩
        by_cases e : j = i
        · subst e; simpa using hq
        · exact hp j hj (by omega))
    (fun s h => by
      obtain ⟨rfl, hp⟩ := h
      refine ⟨_, he, ?_⟩
      have : x.findIdx? p = none := by
        rw [List.findIdx?_eq_none_iff]
        intro y hy
        obtain ⟨j, hj, rfl⟩ := List.getElem_of_mem hy
        exact hp j hj hj
      rw [this]) s0 ⟨h0, fun j _ h => absurd h (Nat.not_lt_zero _)⟩
  rw [h1, h2]
def rowAt (l:List Row) (key:List UInt8):Int:=match l.findIdx? (fun r=>r.1==key) with
 | some i=>(i:Int)
 | none=>-1
theorem s_RowAt {t:Tab}{key:List UInt8}(h:t.1.length<9223372036854775807):Zbp (t,key)=some (rowAt t.1 key):=by
 unfold Zbp rowAt
 exact find_loop (fun i=>(i:Int)) t.1 (fun r=>r.1==key) (fun i=>(i:Int)) (-1) (fun i hi=>by
  unfold Zet
  simp only
  rw[iLt_y (by simp only[lLen_def];omega),cnd_t,idx_at hi,bnd_s,sEq_d,cnd_b,iAdd_1 (by omega)]) (by
  unfold Zet
  simp only
  rw[iLt_n (by simp only[lLen_def];omega),cnd_f]) _ rfl
theorem sLt_cons {x y:UInt8}{a b:List UInt8}:sLt (x::a) (y::b)=true ↔ x.toNat<y.toNat\/(x=y/\sLt a b=true):=by
 simp only[sLt,Op.bytesLess,Bool.or_eq_true,Bool.and_eq_true,decide_eq_true_eq,beq_iff_eq]
 rw[UInt8.lt_iff_toNat_lt]
theorem sLt_nil {a:List UInt8}:sLt a []=false:=by cases a<;>rfl
theorem sLt_irr:∀a:List UInt8,sLt a a=false
 | []=>rfl
 | x::a=>by
  cases h:sLt (x::a) (x::a) with
  | false=>rfl
  | true =>
   rcases sLt_cons.1 h with h|⟨_,h⟩
   ·omega
   ·rw[sLt_irr a]at h;cases h
theorem sLt_trans:∀{a b c:List UInt8},sLt a b=true->sLt b c=true->sLt a c=true:=by
 intro a
 induction a with
 | nil=>intro b c h1 h2;cases b with
  | nil=>rw[sLt_nil]at h1;cases h1
  | cons y b=>cases c with
   | nil=>rw[sLt_nil]at h2;cases h2
   | cons z c=>rfl
 | cons x a ih =>
  intro b c h1 h2
  cases b with
  | nil=>rw[sLt_nil]at h1;cases h1
  | cons y b=>cases c with
   | nil=>rw[sLt_nil]at h2;cases h2
   | cons z c =>
    rw[sLt_cons]at h1 h2 ⊢
    rcases h1 with h1|⟨rfl,h1⟩
    ·rcases h2 with h2|⟨rfl,h2⟩
     ·left;omega
     ·exact .inl h1
    ·rcases h2 with h2|⟨rfl,h2⟩
     ·exact .inl h2
     ·exact .inr ⟨rfl,ih h1 h2⟩
def keepP (key:List UInt8) (x:Row):Bool:=!(x.1==key)
def delR (l:List Row) (key:List UInt8):List Row:=l.filter (keepP key)
abbrev CapT:=Int×List UInt8×Int×Int×Int×Bool×List UInt8×Int×Int×Int×Int
def capR (r:Rec):CapT:=(r.1,(r.2.1.1,(r.2.1.2.1.1,(r.2.1.2.2.1.1,(r.2.1.2.2.2.1,(r.2.1.2.2.2.2,(r.2.2.1,(r.2.2.2.1,(r.2.2.2.2.1,(r.2.2.2.2.2.1,r.2.2.2.2.2.2))))))))))
def idxSt (r:Rec) (i:Nat):Int×List UInt8×Int×Int×Int×Bool×List UInt8×Int×Int×Int×Int×Int:=(r.1,(r.2.1.1,(r.2.1.2.1.1,(r.2.1.2.2.1.1,(r.2.1.2.2.2.1,(r.2.1.2.2.2.2,(r.2.2.1,(r.2.2.2.1,(r.2.2.2.2.1,(r.2.2.2.2.2.1,(r.2.2.2.2.2.2,(i:Int))))))))))))
theorem i_IndexDel {l:List Row}{r:Rec}(hl:l.length<=1048576):Zcj (l,r)=some (match l.findIdx? (fun x=>x.1==r.2.2.1) with|some i=>((i:Int),capR r)|none=>(-1,capR r)):=by
 rw[Zgc]
 exact find_loop (idxSt r) l (fun x=>x.1==r.2.2.1) (fun i=>((i:Int),capR r)) (-1,capR r) (fun i hi=>by
  rw[Zfm]
  simp only[idxSt,Zfn]
  rw[iLt_y (by rw[lLen_def];omega),cnd_t,idx_at hi,bnd_s,bnd_s,sEq_d,cnd_b,iAdd_1 (by omega)]
  rfl) (by
  rw[Zfm]
  simp only[idxSt]
  rw[iLt_n (by rw[lLen_def];omega),cnd_f]
  rfl) _ rfl
def delSt (r:Rec) (H:List RowH) (i:Int) (j:Int):List RowH×Int×List UInt8×Int×Int×Int×Bool×List UInt8×Int×Int×Int×Int×Int×Int:=(H,(r.1,(r.2.1.1,(r.2.1.2.1.1,(r.2.1.2.2.1.1,(r.2.1.2.2.2.1,(r.2.1.2.2.2.2,(r.2.2.1,(r.2.2.2.1,(r.2.2.2.2.1,(r.2.2.2.2.2.1,(r.2.2.2.2.2.2,(i,j)))))))))))))
def delOut (r:Rec) (H:List RowH) (i:Int):List RowH×Int×List UInt8×Int×Int×Int×Bool×List UInt8×Int×Int×Int×Int×Int:=(H,(r.1,(r.2.1.1,(r.2.1.2.1.1,(r.2.1.2.2.1.1,(r.2.1.2.2.2.1,(r.2.1.2.2.2.2,(r.2.2.1,(r.2.2.2.1,(r.2.2.2.2.1,(r.2.2.2.2.2.1,(r.2.2.2.2.2.2,i))))))))))))
def DelInv (l:List Row) (key:List UInt8) (H:List RowH) (i j:Nat):Prop:=H.length=l.length/\i<j/\j<=l.length/\i=(delR (l.take j) key).length/\H.take i=(delR (l.take j) key).map upR/\∀k,j<=k->H[k]? = (l.map upR)[k]?
theorem del_step {l:List Row}{r:Rec}{H:List RowH}{i j:Nat}(hl:l.length<=1048576) (h:DelInv l r.2.2.1 H i j) (hj:j<l.length) :
  ∃(H':List RowH) (i':Nat),Zdk (l.map upR,r) (delSt r H (i:Int) (j:Int))=some (.inl (delSt r H' (i':Int) ((j+1:Nat):Int)))/\DelInv l r.2.2.1 H' i' (j+1):=by
 obtain⟨h1,h2,h3,h4,h5,h6⟩:=h
 have hjj:H[j]? = some (upR l[j]):=by rw[h6 j (Nat.le_refl _),List.getElem?_map,List.getElem?_eq_getElem hj];rfl
 have hii:H[i]? = some (H[i]'(by omega)):=List.getElem?_eq_getElem (by omega)
 have htk:l.take (j+1)=l.take j++[l[j]]:=List.take_succ_eq_append_getElem hj
 have e1:hSome (upR l[j]).2.1.2=true:=rfl
 have e2:hSome (upR l[j]).2.2.1.2=true:=rfl
 rw[Zfl]
 simp only[delSt,Zfn]
 rw[iLt_y (by rw[lLen_def];omega),cnd_t,idx_n,hjj,bnd_s,e1,e2,chk_t,chk_t,bnd_s,sEq_d]
 have e3:(upR l[j]).1=l[j].1:=rfl
 rw[e3]
 cases hp:(l[j].1==r.2.2.1) with
 | true =>
  refine⟨H,i, ?_,h1,by omega,by omega, ?_, ?_,fun k hk=>h6 k (by omega)⟩
  ·rw[bNot_t,cnd_f,joinX_l,iAdd_1 (by omega)]
  ·rw[htk];simp only[delR,List.filter_append]at h4 ⊢
   simp [keepP,hp];exact h4
  ·rw[htk];simp only[delR,List.filter_append]at h5 ⊢
   rw[h5]
   simp [keepP,hp]
 | false =>
  refine⟨(H.set i (upR l[j])).set j (goneR l[j]),i+1, ?_,by simp [h1],by omega,by omega, ?_, ?_,fun k hk=>?_⟩
  ·have e4:nNe i j=true:=by simp [nNe];omega
   rw[bNot_f,cnd_t,idx_n,hii,bnd_s]
   simp only[nOf_n,e4,chk_t,idx_ofNat,hjj,bnd_s,nEq_r,joinX_l,lSet,iAdd_1 (show j<9223372036854775807 by omega),iAdd_1 (show i<9223372036854775807 by omega)]
   rfl
  ·rw[htk];simp only[delR,List.filter_append]at h4 ⊢
   simp [keepP,hp];exact h4
  ·have e5:(H.set i (upR l[j])).take (i+1)=H.take i++[upR l[j]]:=by
    rw[List.take_succ_eq_append_getElem (by rw[List.length_set];omega),List.take_set_of_le (Nat.le_refl i),List.getElem_set_self]
   rw[List.take_set_of_le (by omega),e5,htk]
   simp only[delR,List.filter_append]at h5 ⊢
   rw[h5]
   simp [keepP,hp]
  ·rw[List.getElem?_set_ne (by omega),List.getElem?_set_ne (by omega)]
   exact h6 k (by omega)
theorem cvL_take (H:List RowH) (L:List Row) (i n:Nat) (hi:i<=H.length) (h:H.take i=L.map upR) (z:RowH):cvL tyRH tyR (lTake (i-0) (lApp (lTake i H) (lRep n z)))=some L:=by
 have e:lTake (i-0) (lApp (lTake i H) (lRep n z))=L.map upR:=by
  simp only[lTake,lApp,Nat.sub_zero]
  rw[List.take_append_of_le_length (by simp;omega),List.take_take,Nat.min_self,h]
 rw[e,cvL_dn]
theorem i_DeleteFunc {l : List Row} {r : Rec} (hl : l.length ≤ 1048576) : Zbt (l.map upR, r) = some (delR l r.2.2.1, capR r) := by
  rw [Zgb]
  simp only
  rw [cvL_dn, bnd_s, i_IndexDel hl, bnd_s]
  cases hf : l.findIdx? (fun x => x.1 == r.2.2.1) with
  | none =>
    simp only [iEq_r, cnd_t, bnd_s]
    rw [List.findIdx?_eq_none_iff] at hf
    have : delR l r.2.2.1 = l := List.filter_eq_self.2 fun x hx => by simp [keepP, hf x hx]
    rw [this]
  | some k =>
    rw [List.findIdx?_eq_some_iff_getElem] at hf
    obtain ⟨hk, hk1, hk2⟩ := hf
    simp only
    rw [iEq_n (by omega), cnd_f]
    have hd0 : delR (l.take (k + 1)) r.2.2.1 = l.take k := by
      rw [List.take_succ_eq_append_getElem hk]
      unfold delR
      rw [List.filter_append]
      have e1 : (l.take k).filter (keepP r.2.2.1) = l.take k := List.filter_eq_self.2 fun x hx => by
        obtain ⟨j, hj, rfl⟩ := List.getElem_of_mem hx
        rw [List.length_take] at hj
        have := hk2 j (by omega)
        rw [List.getElem_take]
        simp only [keepP]
        simpa using this
      have e2 : ([l[k]] : List Row).filter (keepP r.2.2.1) = [] := by simp [keepP, hk1]
      rw [e1, e2, List.append_nil]
    obtain ⟨out, q1, i, H, rfl, q2⟩ := loop_inv (step := Zdk (l.map upR, r)) (fun n s => ∃ H i, s = delSt r H ((i : Nat) : Int) ((k + 1 + n : Nat) : Int) ∧ DelInv l r.2.2.1 H i (k + 1 + n)) (l.length - (k + 1)) (fun o => ∃ i H, o = .inl (delOut r H ((i : Nat) : Int)) ∧ DelInv l r.2.2.1 H i l.length)
      (fun n s hn hs => by
        obtain ⟨H, i, rfl, hi⟩ := hs
        obtain ⟨H', i', g1, g2⟩ := del_step hl hi (by omega)
        exact .inl ⟨_, g1, H', i', by rw [show k + 1 + (n + 1) = k + 1 + n + 1 by omega], by rw [show k + 1 + (n + 1) = k + 1 + n + 1 by omega]; exact g2⟩)
      (fun s hs => by
        obtain ⟨H, i, rfl, hi⟩ := hs
        have e : k + 1 + (l.length - (k + 1)) = l.length := by omega
        rw [e] at hi ⊢
        refine ⟨.inl (delOut r H (i : Int)), ?_, i, H, rfl, hi⟩
        rw [Zfl]
        simp only [delSt]
        rw [iLt_n (by rw [lLen_def, hi.1]; omega), cnd_f]
        rfl)
      (delSt r (l.map upR) ((k : Nat) : Int) ((k + 1 + 0 : Nat) : Int)) ⟨_, _, rfl, by simp, by omega, by omega, by rw [Nat.add_zero, hd0]; simp; omega, by rw [Nat.add_zero, hd0, List.map_take], fun _ _ => rfl⟩
    have q1' := q1
    simp only [delSt, Nat.add_zero] at q1'
    simp only [capR]
    rw [iAdd_1 (by omega), q1', joinX_l]
    obtain ⟨g1, g2, g3, g4, g5, g6⟩ := q2
    simp only [delOut]
    have c1 : within (i : Int) (lLen H) (lLen H) = true := by simp [within, lLen]; omega
    have c2 : nEq (nOf (i : Int) + (nOf (lLen H) - nOf (i : Int))) H.length = true := by
      rw [lLen_def, nOf_n, nOf_n]; simp [nEq]; omega
    have c3 : ∀ z : RowH, (lApp (lTake (nOf (i : Int)) H) (lRep (nOf (H.length : Int) - nOf (i : Int)) z)).length = H.length := fun z => by
      rw [nOf_n, nOf_n]; simp [lApp, lTake, lRep]; omega
    have c4 : within 0 (i : Int) (lLen H) = true := by simp [within, lLen]; omega
    have c5 : fits 0 (nOf (i : Int) - 0) H.length = true := by rw [nOf_n]; simp [fits]; omega
    rw [List.take_length] at g5
    rw [c1, chk_t, c2, chk_t]
    simp only [lLen_def, c3]
    rw [lLen_def] at c4
    rw [c4, chk_t, c5, chk_t]
    simp only [nOf_n]
    rw [cvL_take H (delR l r.2.2.1) i _ (by omega) g5, bnd_s]
end
end Go.Vs
