import Derived.Test.YtgleokjlebkdcaaDoorVsW5
import Derived.Test.YtgleokjlebkdcaaDoorVsQe1
set_option linter.all false
namespace Go.Vs
noncomputable section
def validU (l:List UInt8):Bool:=(signsL 0 l).isSome
theorem validU_step {l:List UInt8} (hl:l ≠ []):validU l = match dec l with
  | none => false
  | some (_,k) => validU (l.drop k):=by
 unfold validU
 rw [signsL_step (by omega) hl,show signIn 0 l = dec l from rfl]
 cases dec l with
 | none => rfl
 | some x => obtain ⟨n,k⟩:=x;simp
theorem validU_asc {b:UInt8} {r:List UInt8} (h:b.toNat < 128):validU (b :: r) = validU r:=by
 rw [validU_step (by simp)]
 simp only [dec,if_pos h,List.drop_succ_cons,List.drop_zero]
def Asc (l l':List UInt8):Prop:=∃ m,m ≤ l.length ∧ l' = l.drop m ∧ ∀ b ∈ l.take m,b.toNat < 128
theorem Asc.refl (l:List UInt8):Asc l l:=⟨0,Nat.zero_le _,rfl,fun b hb => by simp at hb⟩
theorem Asc.valid:∀ {l l':List UInt8},Asc l l' → validU l = validU l':=by
 rintro l l' ⟨m,h1,rfl,h2⟩
 induction m generalizing l with
 | zero => rfl
 | succ m ih =>
  cases l with
  | nil => rfl
  | cons b r =>
   rw [validU_asc (h2 b (by simp)),List.drop_succ_cons]
   exact ih (by simpa using h1) fun c hc => h2 c (by simp [hc])
theorem Asc.more {l l':List UInt8} {m:Nat} (h:Asc l l') (hm:m ≤ l'.length) (hb:∀ b ∈ l'.take m,b.toNat < 128):Asc l (l'.drop m):=by
 obtain ⟨k,h1,rfl,h2⟩:=h
 rw [List.length_drop] at hm
 refine ⟨k + m,by omega,by rw [List.drop_drop],fun b hb' => ?_⟩
 rw [List.take_add,List.mem_append] at hb'
 rcases hb' with h | h
 ·exact h2 b h
 ·exact hb b h
theorem cut_drop {l:List UInt8} {k:Nat}:lTake ((nOf (lLen l)) - (nOf (k:Int))) (lDrop (nOf (k:Int)) l) = l.drop k:=by
 simp only [lTake,lDrop,nOf,lLen_def,Int.toNat_natCast]
 rw [List.take_of_length_le (by rw [List.length_drop];omega)]
theorem wrap_u64 {n:Nat} (h:n < 18446744073709551616):IntKind.u64.wrap (n:Int) = (n:Int):=by
 have e1:IntKind.u64.bits = 64:=rfl
 have e2:IntKind.u64.signed = false:=rfl
 simp only [IntKind.wrap,e1,e2,Bool.false_and,Bool.false_eq_true,if_false]
 exact Int.emod_eq_of_lt (by omega) (by simp;omega)
theorem iAnd_64 {a b:Nat} (ha:a < 18446744073709551616) (hb:b < 18446744073709551616):iAnd .u64 (a:Int) (b:Int) = ((a &&& b:Nat):Int):=by
 unfold iAnd
 rw [BitVec.toNat_and,ofInt_toNat (m:=IntKind.u64.bits) ha,ofInt_toNat (m:=IntKind.u64.bits) hb]
 exact wrap_u64 (Nat.lt_of_le_of_lt Nat.and_le_left ha)
theorem iOr_64 {a b:Nat} (ha:a < 18446744073709551616) (hb:b < 18446744073709551616):iOr .u64 (a:Int) (b:Int) = ((a ||| b:Nat):Int):=by
 unfold iOr
 rw [BitVec.toNat_or,ofInt_toNat (m:=IntKind.u64.bits) ha,ofInt_toNat (m:=IntKind.u64.bits) hb]
 exact wrap_u64 (Nat.or_lt_two_pow (n:=64) ha hb)
theorem iShl_64 {a s:Nat} (hs:s ≤ 64) (h:a * 2 ^ s < 18446744073709551616):iShl .u64 (a:Int) (s:Int) = ((a * 2 ^ s:Nat):Int):=by
 unfold iShl
 have e:IntKind.u64.bits = 64:=rfl
 rw [Int.toNat_natCast,e,Nat.min_eq_left hs,show (a:Int) * 2 ^ s = ((a * 2 ^ s:Nat):Int) by simp]
 exact wrap_u64 h
def Clear (n:Nat):Prop:=n &&& 9259542123273814144 = 0
instance (n:Nat):Decidable (Clear n):=Nat.decEq _ _
theorem clear_or {a b:Nat} (h:Clear (a ||| b)):Clear a ∧ Clear b:=by
 unfold Clear at h ⊢
 rw [Nat.and_or_distrib_right] at h
 exact Nat.or_eq_zero_iff.1 h
theorem clear_byte {b i:Nat} (hb:b < 256) (hi:i < 8) (h:Clear (b * 2 ^ (8 * i))):b < 128:=by
 have key:∀ i:Fin 8,∀ b:Fin 256,Nat.beq (b.val * 2 ^ (8 * i.val) &&& 9259542123273814144) 0 = true → Nat.blt b.val 128 = true:=by decide +kernel
 have:=key ⟨i,hi⟩ ⟨b,hb⟩ (by rw [show b * 2 ^ (8 * i) &&& 9259542123273814144 = 0 from h];rfl)
 simpa [Nat.blt_eq] using this
theorem word_ok {l:List UInt8} (h:8 ≤ l.length):∃ w:Nat,w < 18446744073709551616 ∧ F_utf8_word l = some (w:Int) ∧ (Clear w → ∀ b ∈ l.take 8,b.toNat < 128):=by
 match l,h with
 | b0 :: b1 :: b2 :: b3 :: b4 :: b5 :: b6 :: b7 :: r,_ =>
 have h0:=y_lt b0
 have h1:=y_lt b1
 have h2:=y_lt b2
 have h3:=y_lt b3
 have h4:=y_lt b4
 have h5:=y_lt b5
 have h6:=y_lt b6
 have h7:=y_lt b7
 have cv:∀ b:UInt8,iConv .u64 (y2i b) = ((b.toNat:Nat):Int):=fun b => by
  rw [y2i_n];exact wrap_u64 (by have:=y_lt b;omega)
 have sh:∀ (b:UInt8) (s:Nat),s ≤ 56 → iShl .u64 ((b.toNat:Nat):Int) (s:Int) = ((b.toNat * 2 ^ s:Nat):Int):=fun b s hs => by
  refine iShl_64 (by omega) ?_
  have:=y_lt b
  have hp:2 ^ s ≤ 2 ^ 56:=Nat.pow_le_pow_right (by decide) hs
  calc b.toNat * 2 ^ s ≤ 255 * 2 ^ 56:=Nat.mul_le_mul (by omega) hp
   _ < _:=by decide
 have bd:∀ (b:UInt8) (s:Nat),s ≤ 56 → b.toNat * 2 ^ s < 2 ^ 64:=fun b s hs => by
  have:=y_lt b
  have hp:2 ^ s ≤ 2 ^ 56:=Nat.pow_le_pow_right (by decide) hs
  calc b.toNat * 2 ^ s ≤ 255 * 2 ^ 56:=Nat.mul_le_mul (by omega) hp
   _ < _:=by decide
 have b0':b0.toNat < 2 ^ 64:=by omega
 have or1:=Nat.or_lt_two_pow b0' (bd b1 8 (by omega))
 have or2:=Nat.or_lt_two_pow or1 (bd b2 16 (by omega))
 have or3:=Nat.or_lt_two_pow or2 (bd b3 24 (by omega))
 have or4:=Nat.or_lt_two_pow or3 (bd b4 32 (by omega))
 have or5:=Nat.or_lt_two_pow or4 (bd b5 40 (by omega))
 have or6:=Nat.or_lt_two_pow or5 (bd b6 48 (by omega))
 have or7:=Nat.or_lt_two_pow or6 (bd b7 56 (by omega))
 refine ⟨_,or7, ?_, ?_⟩
 ·unfold F_utf8_word
  simp only [show idx (b0 :: b1 :: b2 :: b3 :: b4 :: b5 :: b6 :: b7 :: r) 0 = some b0 from rfl,show idx (b0 :: b1 :: b2 :: b3 :: b4 :: b5 :: b6 :: b7 :: r) 1 = some b1 from rfl,show idx (b0 :: b1 :: b2 :: b3 :: b4 :: b5 :: b6 :: b7 :: r) 2 = some b2 from rfl,show idx (b0 :: b1 :: b2 :: b3 :: b4 :: b5 :: b6 :: b7 :: r) 3 = some b3 from rfl,show idx (b0 :: b1 :: b2 :: b3 :: b4 :: b5 :: b6 :: b7 :: r) 4 = some b4 from rfl,show idx (b0 :: b1 :: b2 :: b3 :: b4 :: b5 :: b6 :: b7 :: r) 5 = some b5 from rfl,show idx (b0 :: b1 :: b2 :: b3 :: b4 :: b5 :: b6 :: b7 :: r) 6 = some b6 from rfl,show idx (b0 :: b1 :: b2 :: b3 :: b4 :: b5 :: b6 :: b7 :: r) 7 = some b7 from rfl,bnd_s,cv]
  have s8:=sh b1 8 (by omega)
  have s16:=sh b2 16 (by omega)
  have s24:=sh b3 24 (by omega)
  have s32:=sh b4 32 (by omega)
  have s40:=sh b5 40 (by omega)
  have s48:=sh b6 48 (by omega)
  have s56:=sh b7 56 (by omega)
  have t8:=bd b1 8 (by omega)
  have t16:=bd b2 16 (by omega)
  have t24:=bd b3 24 (by omega)
  have t32:=bd b4 32 (by omega)
  have t40:=bd b5 40 (by omega)
  have t48:=bd b6 48 (by omega)
  have t56:=bd b7 56 (by omega)
  rw [show iShl .u64 ((b1.toNat:Nat):Int) 8 = _ from s8,show iShl .u64 ((b2.toNat:Nat):Int) 16 = _ from s16,show iShl .u64 ((b3.toNat:Nat):Int) 24 = _ from s24,show iShl .u64 ((b4.toNat:Nat):Int) 32 = _ from s32,show iShl .u64 ((b5.toNat:Nat):Int) 40 = _ from s40,show iShl .u64 ((b6.toNat:Nat):Int) 48 = _ from s48,show iShl .u64 ((b7.toNat:Nat):Int) 56 = _ from s56]
  rw [iOr_64 b0' t8,iOr_64 or1 t16,iOr_64 or2 t24,iOr_64 or3 t32,iOr_64 or4 t40,iOr_64 or5 t48,iOr_64 or6 t56]
 ·intro hc
  obtain ⟨hc,c7⟩:=clear_or hc
  obtain ⟨hc,c6⟩:=clear_or hc
  obtain ⟨hc,c5⟩:=clear_or hc
  obtain ⟨hc,c4⟩:=clear_or hc
  obtain ⟨hc,c3⟩:=clear_or hc
  obtain ⟨hc,c2⟩:=clear_or hc
  obtain ⟨c0,c1⟩:=clear_or hc
  have d0:=clear_byte (i:=0) h0 (by omega) (by simpa using c0)
  have d1:=clear_byte (i:=1) h1 (by omega) c1
  have d2:=clear_byte (i:=2) h2 (by omega) c2
  have d3:=clear_byte (i:=3) h3 (by omega) c3
  have d4:=clear_byte (i:=4) h4 (by omega) c4
  have d5:=clear_byte (i:=5) h5 (by omega) c5
  have d6:=clear_byte (i:=6) h6 (by omega) c6
  have d7:=clear_byte (i:=7) h7 (by omega) c7
  intro b hb
  simp only [List.take_succ_cons,List.take_zero,List.mem_cons,List.not_mem_nil,or_false] at hb
  rcases hb with rfl | rfl | rfl | rfl | rfl | rfl | rfl | rfl <;> assumption
theorem mask_if {w:Nat} (h:w < 18446744073709551616):iEq (iAnd .u64 (w:Int) 9259542123273814144) 0 = decide (Clear w):=by
 rw [show (9259542123273814144:Int) = ((9259542123273814144:Nat):Int) from rfl,iAnd_64 h (by omega)]
 show ((((w &&& 9259542123273814144:Nat):Int)) == 0) = decide (w &&& 9259542123273814144 = 0)
 generalize w &&& 9259542123273814144 = q
 rw [Bool.eq_iff_iff];simp
theorem cut1 {l:List UInt8}:lTake ((nOf (lLen l)) - (nOf 1)) (lDrop (nOf 1) l) = l.drop 1:=cut_drop (k:=1)
theorem cut2 {l:List UInt8}:lTake ((nOf (lLen l)) - (nOf 2)) (lDrop (nOf 2) l) = l.drop 2:=cut_drop (k:=2)
theorem cut3 {l:List UInt8}:lTake ((nOf (lLen l)) - (nOf 3)) (lDrop (nOf 3) l) = l.drop 3:=cut_drop (k:=3)
theorem cut4 {l:List UInt8}:lTake ((nOf (lLen l)) - (nOf 4)) (lDrop (nOf 4) l) = l.drop 4:=cut_drop (k:=4)
theorem cut8 {l:List UInt8}:lTake ((nOf (lLen l)) - (nOf 8)) (lDrop (nOf 8) l) = l.drop 8:=cut_drop (k:=8)
theorem cut16 {l:List UInt8}:lTake ((nOf (lLen l)) - (nOf 16)) (lDrop (nOf 16) l) = l.drop 16:=cut_drop (k:=16)
theorem cut24 {l:List UInt8}:lTake ((nOf (lLen l)) - (nOf 24)) (lDrop (nOf 24) l) = l.drop 24:=cut_drop (k:=24)
theorem cut32 {l:List UInt8}:lTake ((nOf (lLen l)) - (nOf 32)) (lDrop (nOf 32) l) = l.drop 32:=cut_drop (k:=32)
theorem within_k {l:List UInt8} {k:Int} (h0:0 ≤ k) (h:k ≤ l.length):within k (lLen l) (lLen l) = true:=decide_eq_true (by simp only [lLen_def];omega)
theorem vs_in {z:List UInt8}:∃ r,loopX S_utf8_ValidString_0 z = some r ∧ ∃ l',r = .inr (.inl l') ∧ Asc z l':=by
 refine loop_meas (fun s => Asc z s) (fun s => s.length) (fun (r:List UInt8 ⊕ (List UInt8 ⊕ Bool)) => ∃ l',r = .inr (.inl l') ∧ Asc z l') (fun s hs => ?_) z (Asc.refl z)
 unfold S_utf8_ValidString_0
 simp only [cut8,cut16,cut24,cut32]
 by_cases hlen:(32:Int) < s.length
 ·rw [iGt_y (by simp only [lLen_def];omega),cnd_t]
  have l1:(s.drop 8).length = s.length - 8:=List.length_drop
  have l2:(s.drop 16).length = s.length - 16:=List.length_drop
  have l3:(s.drop 24).length = s.length - 24:=List.length_drop
  obtain ⟨w1,a1,b1,c1⟩:=word_ok (l:=s) (by omega)
  obtain ⟨w2,a2,b2,c2⟩:=word_ok (l:=s.drop 8) (by omega)
  obtain ⟨w3,a3,b3,c3⟩:=word_ok (l:=s.drop 16) (by omega)
  obtain ⟨w4,a4,b4,c4⟩:=word_ok (l:=s.drop 24) (by omega)
  have o1:=Nat.or_lt_two_pow (n:=64) a1 a2
  have o2:=Nat.or_lt_two_pow (n:=64) a3 a4
  have o3:=Nat.or_lt_two_pow (n:=64) o1 o2
  rw [b1,bnd_s,within_k (by omega) (by omega),chk_t,b2,bnd_s,within_k (by omega) (by omega),chk_t,b3,bnd_s,within_k (by omega) (by omega),chk_t,b4,bnd_s,iOr_64 a1 a2,iOr_64 a3 a4,iOr_64 o1 o2,mask_if o3]
  by_cases hc:Clear (w1 ||| w2 ||| (w3 ||| w4))
  ·left
   rw [decide_eq_true hc,cnd_t,within_k (by omega) (by omega),chk_t]
   obtain ⟨h12,h34⟩:=clear_or hc
   obtain ⟨h1,h2⟩:=clear_or h12
   obtain ⟨h3,h4⟩:=clear_or h34
   have k1:=hs.more (m:=8) (by omega) (c1 h1)
   have k2:=k1.more (m:=8) (by omega) (c2 h2)
   rw [List.drop_drop] at k2
   have k3:=k2.more (m:=8) (by rw [List.length_drop];omega) (c3 h3)
   rw [List.drop_drop] at k3
   have k4:=k3.more (m:=8) (by rw [List.length_drop];omega) (c4 h4)
   rw [List.drop_drop] at k4
   exact ⟨_,rfl,k4,by rw [List.length_drop];omega⟩
  ·right
   rw [decide_eq_false hc,cnd_f]
   exact ⟨_,rfl,s,rfl,hs⟩
 ·right
  rw [iGt_n (by simp only [lLen_def];omega),cnd_f]
  exact ⟨_,rfl,s,rfl,hs⟩
theorem vs_asc {b:UInt8} {r:List UInt8} (h:b.toNat < 128):∃ l',S_utf8_ValidString_1 (b :: r) = some (.inl l') ∧ Asc (b :: r) l' ∧ l'.length ≤ r.length:=by
 have e128:y2i (u8 128) = 128:=y2i_u8c 128 (by omega)
 have A:Asc (b :: r) r:=⟨1,by simp,rfl,fun c hc => by simp at hc;rw [hc];exact h⟩
 unfold S_utf8_ValidString_1
 rw [iGt_y (by simp only [lLen_def,List.length_cons];omega),cnd_t,show idx (b :: r) 0 = some b from rfl,bnd_s]
 simp only [cut1,cut8,cut16,List.drop_succ_cons,List.drop_zero]
 rw [e128,iLt_y (by rw [y2i_n];omega),cnd_t,within_k (by omega) (by simp only [List.length_cons];omega),chk_t]
 by_cases h8:(8:Int) < r.length
 case neg => rw [iGt_n (by simp only [lLen_def];omega),cnd_f,joinX_r];exact ⟨r,rfl,A,Nat.le_refl _⟩
 rw [iGt_y (by simp only [lLen_def];omega),cnd_t]
 obtain ⟨w1,a1,b1,c1⟩:=word_ok (l:=r) (by omega)
 rw [b1,bnd_s,mask_if a1]
 by_cases hc:Clear w1
 case neg => rw [decide_eq_false hc,cnd_f,joinX_r];exact ⟨r,rfl,A,Nat.le_refl _⟩
 rw [decide_eq_true hc,cnd_t,within_k (by omega) (by omega),chk_t]
 have A8:=A.more (m:=8) (by omega) (c1 hc)
 have l8:(r.drop 8).length = r.length - 8:=List.length_drop
 by_cases h16:(16:Int) < (r.drop 8).length
 case neg => rw [iGt_n (by simp only [lLen_def];omega),cnd_f,joinX_r];exact ⟨_,rfl,A8,by omega⟩
 rw [iGt_y (by simp only [lLen_def];omega),cnd_t]
 have l16:((r.drop 8).drop 8).length = r.length - 16:=by rw [List.length_drop,l8];omega
 obtain ⟨w2,a2,b2,c2⟩:=word_ok (l:=r.drop 8) (by omega)
 obtain ⟨w3,a3,b3,c3⟩:=word_ok (l:=(r.drop 8).drop 8) (by omega)
 have o1:=Nat.or_lt_two_pow (n:=64) a2 a3
 rw [b2,bnd_s,within_k (by omega) (by omega),chk_t,b3,bnd_s,iOr_64 a2 a3,mask_if o1]
 by_cases hc2:Clear (w2 ||| w3)
 case neg => rw [decide_eq_false hc2,cnd_f,joinX_r];exact ⟨_,rfl,A8,by omega⟩
 rw [decide_eq_true hc2,cnd_t,within_k (by omega) (by omega),chk_t]
 obtain ⟨d2,d3⟩:=clear_or hc2
 have A16:=(A8.more (m:=8) (by omega) (c2 d2)).more (m:=8) (by omega) (c3 d3)
 rw [List.drop_drop] at A16
 obtain ⟨rr,e1,l',rfl,k⟩:=vs_in (z:=(r.drop 8).drop 16)
 rw [e1,joinX_r]
 refine ⟨l',rfl, ?_, ?_⟩
 ·obtain ⟨m,m1,rfl,m2⟩:=k
  exact A16.more m1 m2
 ·obtain ⟨m,m1,rfl,m2⟩:=k
  rw [List.length_drop,List.length_drop];omega
def vsR (l:List UInt8) (o:Option (Nat × Nat)):List UInt8 ⊕ Bool:=match o with
 | none => .inr false
 | some (_,k) => .inl (l.drop k)
theorem isCont_iff (b:UInt8):isCont b = true ↔ 128 ≤ b.toNat ∧ b.toNat < 192:=by simp [isCont]
theorem vs2 {b0:UInt8} {r:List UInt8} {x lo hi:UInt8} (h:128 ≤ b0.toNat) (hf:gFirst[b0.toNat]? = some x) (ht:XT x lo hi 2) (hlo:lo.toNat = 128) (hhi:hi.toNat = 191):S_utf8_ValidString_1 (b0 :: r) = some (vsR (b0 :: r) (dec2 b0 r)):=by
 have h0:=y_lt b0
 have e1:idx gFirst (Int.ofNat (0 + nOf (y2i b0) * 1)) = some x:=by
  rw [y2i_n,nOf_n,idx_ofNat];simpa using hf
 have e128:y2i (u8 128) = 128:=y2i_u8c 128 (by omega)
 have e191:y2i (u8 191) = 191:=y2i_u8c 191 (by omega)
 unfold S_utf8_ValidString_1
 rw [iGt_y (by simp only [lLen_def,List.length_cons];omega),cnd_t,show idx (b0 :: r) 0 = some b0 from rfl,bnd_s]
 simp only [cut2,cut3,cut4,e128,e191]
 rw [iLt_n (by rw [y2i_n];omega),cnd_f,joinX_l,iLe_y (by rw [y2i_n];omega),chk_t,iLt_y (by rw [y2i_n];omega),chk_t,e1,bnd_s,ht.b,chk_t,ht.c,chk_t,ht.d,bnd_s,ht.e,bnd_s,ht.f]
 rw [show iEq ((2:Nat):Int) 2 = true from rfl,cnd_t]
 cases r with
 | nil => rfl
 | cons b1 r =>
  have h1:=y_lt b1
  rw [iLt_n (by simp only [lLen_def,List.length_cons];omega),cnd_f,show idx (b0 :: b1 :: r) 1 = some b1 from rfl,bnd_s]
  simp only [dec2]
  by_cases c1:b1.toNat < 128
  ·rw [iLt_y (by rw [y2i_n,y2i_n];omega),cnd_t,if_neg (by simp only [isCont_iff];omega)];rfl
  rw [iLt_n (by rw [y2i_n,y2i_n];omega),cnd_f,bnd_s]
  by_cases c2:191 < b1.toNat
  ·rw [iLt_y (by rw [y2i_n,y2i_n];omega),cnd_t,if_neg (by simp only [isCont_iff];omega)];rfl
  rw [iLt_n (by rw [y2i_n,y2i_n];omega),cnd_f,within_k (by omega) (by simp only [List.length_cons];omega),chk_t,if_pos (by simp only [isCont_iff];omega)];rfl
theorem vs3 {b0:UInt8} {r:List UInt8} {x lo hi:UInt8} (h:128 ≤ b0.toNat) (hf:gFirst[b0.toNat]? = some x) (ht:XT x lo hi 3) (hlo:lo.toNat = low3 b0) (hhi:hi.toNat = hi3 b0):S_utf8_ValidString_1 (b0 :: r) = some (vsR (b0 :: r) (dec3 b0 r)):=by
 have h0:=y_lt b0
 have e1:idx gFirst (Int.ofNat (0 + nOf (y2i b0) * 1)) = some x:=by
  rw [y2i_n,nOf_n,idx_ofNat];simpa using hf
 have e128:y2i (u8 128) = 128:=y2i_u8c 128 (by omega)
 have e191:y2i (u8 191) = 191:=y2i_u8c 191 (by omega)
 unfold S_utf8_ValidString_1
 rw [iGt_y (by simp only [lLen_def,List.length_cons];omega),cnd_t,show idx (b0 :: r) 0 = some b0 from rfl,bnd_s]
 simp only [cut2,cut3,cut4,e128,e191]
 rw [iLt_n (by rw [y2i_n];omega),cnd_f,joinX_l,iLe_y (by rw [y2i_n];omega),chk_t,iLt_y (by rw [y2i_n];omega),chk_t,e1,bnd_s,ht.b,chk_t,ht.c,chk_t,ht.d,bnd_s,ht.e,bnd_s,ht.f]
 rw [show iEq ((3:Nat):Int) 2 = false from rfl,cnd_f,show iEq ((3:Nat):Int) 3 = true from rfl,cnd_t]
 match r with
 | [] => rfl
 | [b1] => rfl
 | b1 :: b2 :: r =>
  have h1:=y_lt b1
  have h2:=y_lt b2
  rw [iLt_n (by simp only [lLen_def,List.length_cons];omega),cnd_f,show idx (b0 :: b1 :: b2 :: r) 1 = some b1 from rfl,bnd_s]
  simp only [dec3]
  by_cases c1:b1.toNat < low3 b0
  ·rw [iLt_y (by rw [y2i_n,y2i_n];omega),cnd_t,if_neg (by simp only [isCont_iff];omega)];rfl
  rw [iLt_n (by rw [y2i_n,y2i_n];omega),cnd_f,bnd_s]
  by_cases c2:hi3 b0 < b1.toNat
  ·rw [iLt_y (by rw [y2i_n,y2i_n];omega),cnd_t,if_neg (by simp only [isCont_iff];omega)];rfl
  rw [iLt_n (by rw [y2i_n,y2i_n];omega),cnd_f,show idx (b0 :: b1 :: b2 :: r) 2 = some b2 from rfl,bnd_s]
  by_cases c3:b2.toNat < 128
  ·rw [iLt_y (by rw [y2i_n];omega),cnd_t,if_neg (by simp only [isCont_iff];omega)];rfl
  rw [iLt_n (by rw [y2i_n];omega),cnd_f,bnd_s]
  by_cases c4:191 < b2.toNat
  ·rw [iLt_y (by rw [y2i_n];omega),cnd_t,if_neg (by simp only [isCont_iff];omega)];rfl
  rw [iLt_n (by rw [y2i_n];omega),cnd_f,within_k (by omega) (by simp only [List.length_cons];omega),chk_t,if_pos (by simp only [isCont_iff];omega)];rfl
theorem vs4 {b0:UInt8} {r:List UInt8} {x lo hi:UInt8} (h:128 ≤ b0.toNat) (hf:gFirst[b0.toNat]? = some x) (ht:XT x lo hi 4) (hlo:lo.toNat = low4 b0) (hhi:hi.toNat = hi4 b0):S_utf8_ValidString_1 (b0 :: r) = some (vsR (b0 :: r) (dec4 b0 r)):=by
 have h0:=y_lt b0
 have e1:idx gFirst (Int.ofNat (0 + nOf (y2i b0) * 1)) = some x:=by
  rw [y2i_n,nOf_n,idx_ofNat];simpa using hf
 have e128:y2i (u8 128) = 128:=y2i_u8c 128 (by omega)
 have e191:y2i (u8 191) = 191:=y2i_u8c 191 (by omega)
 unfold S_utf8_ValidString_1
 rw [iGt_y (by simp only [lLen_def,List.length_cons];omega),cnd_t,show idx (b0 :: r) 0 = some b0 from rfl,bnd_s]
 simp only [cut2,cut3,cut4,e128,e191]
 rw [iLt_n (by rw [y2i_n];omega),cnd_f,joinX_l,iLe_y (by rw [y2i_n];omega),chk_t,iLt_y (by rw [y2i_n];omega),chk_t,e1,bnd_s,ht.b,chk_t,ht.c,chk_t,ht.d,bnd_s,ht.e,bnd_s,ht.f]
 rw [show iEq ((4:Nat):Int) 2 = false from rfl,cnd_f,show iEq ((4:Nat):Int) 3 = false from rfl,cnd_f,show iEq ((4:Nat):Int) 4 = true from rfl,cnd_t]
 match r with
 | [] => rfl
 | [b1] => rfl
 | [b1,b2] => rfl
 | b1 :: b2 :: b3 :: r =>
  have h1:=y_lt b1
  have h2:=y_lt b2
  have h3:=y_lt b3
  rw [iLt_n (by simp only [lLen_def,List.length_cons];omega),cnd_f,show idx (b0 :: b1 :: b2 :: b3 :: r) 1 = some b1 from rfl,bnd_s]
  simp only [dec4]
  by_cases c1:b1.toNat < low4 b0
  ·rw [iLt_y (by rw [y2i_n,y2i_n];omega),cnd_t,if_neg (by simp only [isCont_iff];omega)];rfl
  rw [iLt_n (by rw [y2i_n,y2i_n];omega),cnd_f,bnd_s]
  by_cases c2:hi4 b0 < b1.toNat
  ·rw [iLt_y (by rw [y2i_n,y2i_n];omega),cnd_t,if_neg (by simp only [isCont_iff];omega)];rfl
  rw [iLt_n (by rw [y2i_n,y2i_n];omega),cnd_f,show idx (b0 :: b1 :: b2 :: b3 :: r) 2 = some b2 from rfl,bnd_s]
  by_cases c3:b2.toNat < 128
  ·rw [iLt_y (by rw [y2i_n];omega),cnd_t,if_neg (by simp only [isCont_iff];omega)];rfl
  rw [iLt_n (by rw [y2i_n];omega),cnd_f,bnd_s]
  by_cases c4:191 < b2.toNat
  ·rw [iLt_y (by rw [y2i_n];omega),cnd_t,if_neg (by simp only [isCont_iff];omega)];rfl
  rw [iLt_n (by rw [y2i_n];omega),cnd_f,show idx (b0 :: b1 :: b2 :: b3 :: r) 3 = some b3 from rfl,bnd_s]
  by_cases c5:b3.toNat < 128
  ·rw [iLt_y (by rw [y2i_n];omega),cnd_t,if_neg (by simp only [isCont_iff];omega)];rfl
  rw [iLt_n (by rw [y2i_n];omega),cnd_f,bnd_s]
  by_cases c6:191 < b3.toNat
  ·rw [iLt_y (by rw [y2i_n];omega),cnd_t,if_neg (by simp only [isCont_iff];omega)];rfl
  rw [iLt_n (by rw [y2i_n];omega),cnd_f,within_k (by omega) (by simp only [List.length_cons];omega),chk_t,if_pos (by simp only [isCont_iff];omega)];rfl
theorem vs_bad {b0:UInt8} {r:List UInt8} (h:128 ≤ b0.toNat) (hf:gFirst[b0.toNat]? = some 241):S_utf8_ValidString_1 (b0 :: r) = some (.inr false):=by
 have h0:=y_lt b0
 have e1:idx gFirst (Int.ofNat (0 + nOf (y2i b0) * 1)) = some 241:=by
  rw [y2i_n,nOf_n,idx_ofNat];simpa using hf
 have e128:y2i (u8 128) = 128:=y2i_u8c 128 (by omega)
 obtain ⟨a,b,lo,hi,c,d,e⟩:iLe 0 (y2i (u8 (iShr .u8 (y2i 241) 4))) = true ∧ iLt (y2i (u8 (iShr .u8 (y2i 241) 4))) 16 = true ∧ ∃ lo hi,idx gAcc (Int.ofNat (0 + ((nOf (y2i (u8 (iShr .u8 (y2i 241) 4)))) * 2))) = some lo ∧ idx gAcc (Int.ofNat ((0 + ((nOf (y2i (u8 (iShr .u8 (y2i 241) 4)))) * 2)) + 1)) = some hi ∧ iConv .i64 (y2i (u8 (iAnd .u8 (y2i 241) (y2i (u8 7))))) = 1:=⟨by decide +kernel,by decide +kernel,0,0,by decide +kernel,by decide +kernel,by decide +kernel⟩
 unfold S_utf8_ValidString_1
 rw [iGt_y (by simp only [lLen_def,List.length_cons];omega),cnd_t,show idx (b0 :: r) 0 = some b0 from rfl,bnd_s]
 rw [e128,iLt_n (by rw [y2i_n];omega),cnd_f,joinX_l,iLe_y (by rw [y2i_n];omega),chk_t,iLt_y (by rw [y2i_n];omega),chk_t,e1,bnd_s,a,chk_t,b,chk_t,c,bnd_s,d,bnd_s,e]
 rfl
theorem vs_multi {b0:UInt8} {r:List UInt8} (h:128 ≤ b0.toNat):S_utf8_ValidString_1 (b0 :: r) = some (vsR (b0 :: r) (dec (b0 :: r))):=by
 have h0:=y_lt b0
 have ht:=first_tab ⟨b0.toNat,h0⟩ h
 simp only at ht
 by_cases h1:b0.toNat < 194
 ·rw [if_pos h1] at ht
  rw [vs_bad h ht]
  simp only [dec,if_neg (show ¬ b0.toNat < 128 by omega),if_pos h1];rfl
 rw [if_neg h1] at ht
 by_cases h2:b0.toNat < 224
 ·rw [if_pos h2] at ht
  rw [vs2 h ht xt2 rfl rfl]
  simp only [dec,if_neg (show ¬ b0.toNat < 128 by omega),if_neg h1,if_pos h2]
 rw [if_neg h2] at ht
 have d3:b0.toNat < 240 → dec (b0 :: r) = dec3 b0 r:=fun k => by simp only [dec,if_neg (show ¬ b0.toNat < 128 by omega),if_neg h1,if_neg h2,if_pos k]
 have d4:¬ b0.toNat < 240 → b0.toNat < 245 → dec (b0 :: r) = dec4 b0 r:=fun k j => by simp only [dec,if_neg (show ¬ b0.toNat < 128 by omega),if_neg h1,if_neg h2,if_neg k,if_pos j]
 by_cases h3:b0.toNat = 224
 ·rw [if_pos h3] at ht
  rw [vs3 h ht xt13 (by rw [low3,if_pos h3];rfl) (by rw [hi3,if_neg (by omega)];rfl),d3 (by omega)]
 rw [if_neg h3] at ht
 by_cases h4:b0.toNat = 237
 ·rw [if_pos h4] at ht
  rw [vs3 h ht xt23 (by rw [low3,if_neg (by omega)];rfl) (by rw [hi3,if_pos h4];rfl),d3 (by omega)]
 rw [if_neg h4] at ht
 by_cases h5:b0.toNat < 240
 ·rw [if_pos h5] at ht
  rw [vs3 h ht xt3 (by rw [low3,if_neg (by omega)];rfl) (by rw [hi3,if_neg (by omega)];rfl),d3 (by omega)]
 rw [if_neg h5] at ht
 by_cases h6:b0.toNat = 240
 ·rw [if_pos h6] at ht
  rw [vs4 h ht xt34 (by rw [low4,if_pos h6];rfl) (by rw [hi4,if_neg (by omega)];rfl),d4 (by omega) (by omega)]
 rw [if_neg h6] at ht
 by_cases h7:b0.toNat < 244
 ·rw [if_pos h7] at ht
  rw [vs4 h ht xt4 (by rw [low4,if_neg (by omega)];rfl) (by rw [hi4,if_neg (by omega)];rfl),d4 (by omega) (by omega)]
 rw [if_neg h7] at ht
 by_cases h8:b0.toNat = 244
 ·rw [if_pos h8] at ht
  rw [vs4 h ht xt44 (by rw [low4,if_neg (by omega)];rfl) (by rw [hi4,if_pos h8];rfl),d4 (by omega) (by omega)]
 ·rw [if_neg h8] at ht
  rw [vs_bad h ht]
  simp only [dec,if_neg (show ¬ b0.toNat < 128 by omega),if_neg h1,if_neg h2,if_neg h5,if_neg (show ¬ b0.toNat < 245 by omega)];rfl
theorem valid_ok (x:List UInt8):F_utf8_ValidString x = some (validU x):=by
 obtain ⟨r,h1,rfl⟩:=loop_meas (step:=S_utf8_ValidString_1) (fun s => validU x = validU s) (fun s => s.length) (fun r => r = validU x) (fun s hs => by
  cases s with
  | nil =>
   right
   refine ⟨true, ?_, ?_⟩
   ·unfold S_utf8_ValidString_1;rw [iGt_n (by simp only [lLen_def,List.length_nil];omega),cnd_f]
   ·rw [hs];rfl
  | cons b r =>
   by_cases h:b.toNat < 128
   ·obtain ⟨l',e1,e2,e3⟩:=vs_asc (r:=r) h
    exact .inl ⟨l',e1,by rw [hs];exact e2.valid,by simp only [List.length_cons];omega⟩
   ·rw [vs_multi (r:=r) (by omega)]
    have hv:=validU_step (l:=b :: r) (by simp)
    cases hd:dec (b :: r) with
    | none => rw [hd] at hv;exact .inr ⟨false,rfl,by rw [hs,hv]⟩
    | some v =>
     obtain ⟨n,k⟩:=v
     rw [hd] at hv
     have hk:=(enc_dec hd).2.2
     exact .inl ⟨_,rfl,by rw [hs,hv],by rw [List.length_drop];omega⟩) x rfl
 exact h1
end
end Go.Vs
