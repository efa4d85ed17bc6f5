import Derived.Test.YtgleokjlebkdcaaDoorVsW5
import Derived.Test.YtgleokjlebkdcaaDoorVsQe2
set_option linter.all false
namespace Go.Vs
noncomputable section
theorem get_utf {l:List UInt8} {p j:Nat} {b:UInt8} (h:(l.drop p)[j]? = some b):((⟨l.toArray⟩:ByteArray).get! (p + j)).toNat = b.toNat ∧ p + j < (⟨l.toArray⟩:ByteArray).size:=by
 rw [List.getElem?_drop] at h
 have hl:p + j < l.length:=by
  rcases Nat.lt_or_ge (p + j) l.length with k | k
  ·exact k
  ·rw [List.getElem?_eq_none k] at h;cases h
 refine ⟨?_,by show p + j < l.toArray.size;simpa using hl⟩
 have:(⟨l.toArray⟩:ByteArray).get! (p + j) = b:=by
  show (l.toArray)[p + j]! = b
  rw [getElem!_pos _ _ (by simpa using hl)]
  rw [List.getElem?_eq_getElem hl,Option.some.injEq] at h
  simpa using h
 rw [this]
theorem dec_utf {l:List UInt8} {p n k:Nat} (h:dec (l.drop p) = some (n,k)):Utf8.decode ⟨l.toArray⟩ p = (n,k):=by
 have hs:=(enc_dec h).1
 simp only [isSign,decide_eq_true_eq] at hs
 have G:∀ j b,(l.drop p)[j]? = some b → ((⟨l.toArray⟩:ByteArray).get! (p + j)).toNat = b.toNat ∧ p + j < (⟨l.toArray⟩:ByteArray).size:=fun j b => get_utf
 generalize l.drop p = t at h G
 match t,h with
 | b0 :: r,h =>
 obtain ⟨g0,_⟩:=G 0 b0 rfl
 have h0:=y_lt b0
 unfold Utf8.decode
 simp only [g0]
 simp only [dec] at h
 by_cases c1:b0.toNat < 128
 ·rw [if_pos c1] at h
  simp only [Option.some.injEq,Prod.mk.injEq] at h
  rw [if_pos c1,h.1,h.2]
 rw [if_neg c1] at h
 rw [if_neg c1]
 by_cases c2:b0.toNat < 194
 ·rw [if_pos c2] at h;cases h
 rw [if_neg c2] at h
 by_cases c3:b0.toNat < 224
 ·rw [if_pos c3] at h
  match r,h with
  | b1 :: r,h =>
  obtain ⟨g1,s1⟩:=G 1 b1 rfl
  simp only [dec2] at h
  by_cases k1:isCont b1 = true
  ·rw [if_pos k1] at h
   rw [isCont_iff] at k1
   simp only [Option.some.injEq,Prod.mk.injEq] at h
   obtain ⟨rfl,rfl⟩:=h
   rw [if_pos (by simp [g1,s1];omega),g1,if_pos (by omega)]
  ·rw [if_neg k1] at h;cases h
 rw [if_neg c3] at h
 rw [if_neg (by simp;omega)]
 by_cases c4:b0.toNat < 240
 ·rw [if_pos c4] at h
  match r,h with
  | b1 :: b2 :: r,h =>
  obtain ⟨g1,s1⟩:=G 1 b1 rfl
  obtain ⟨g2,s2⟩:=G 2 b2 rfl
  have h1:=y_lt b1
  simp only [dec3] at h
  by_cases k1:low3 b0 ≤ b1.toNat ∧ b1.toNat ≤ hi3 b0 ∧ isCont b2 = true
  ·rw [if_pos k1] at h
   rw [isCont_iff] at k1
   simp only [Option.some.injEq,Prod.mk.injEq] at h
   obtain ⟨rfl,rfl⟩:=h
   have hlow:128 ≤ low3 b0 ∧ (b0.toNat = 224 → low3 b0 = 160):=by unfold low3;split <;> omega
   have hhi:hi3 b0 ≤ 191:=by unfold hi3;split <;> omega
   rw [if_pos (by simp [g1,s1,g2,s2];omega),g1,g2,if_pos (by simp [Utf8.valid];omega)]
  ·rw [if_neg k1] at h;cases h
 rw [if_neg c4] at h
 rw [if_neg (by simp;omega)]
 by_cases c5:b0.toNat < 245
 ·rw [if_pos c5] at h
  match r,h with
  | b1 :: b2 :: b3 :: r,h =>
  obtain ⟨g1,s1⟩:=G 1 b1 rfl
  obtain ⟨g2,s2⟩:=G 2 b2 rfl
  obtain ⟨g3,s3⟩:=G 3 b3 rfl
  have h1:=y_lt b1
  simp only [dec4] at h
  by_cases k1:low4 b0 ≤ b1.toNat ∧ b1.toNat ≤ hi4 b0 ∧ isCont b2 = true ∧ isCont b3 = true
  ·rw [if_pos k1] at h
   rw [isCont_iff,isCont_iff] at k1
   simp only [Option.some.injEq,Prod.mk.injEq] at h
   obtain ⟨rfl,rfl⟩:=h
   have hlow:128 ≤ low4 b0 ∧ (b0.toNat = 240 → low4 b0 = 144):=by unfold low4;split <;> omega
   have hhi:hi4 b0 ≤ 191:=by unfold hi4;split <;> omega
   rw [if_pos (by simp [g1,s1,g2,s2,g3,s3];omega),g1,g2,g3,if_pos (by simp [Utf8.valid];omega)]
  ·rw [if_neg k1] at h;cases h
 ·rw [if_neg c5] at h;cases h
theorem runes_ok {l:List UInt8}:∀ (m p:Nat) {ns:List Nat},p ≤ l.length → l.length - p ≤ m → signsL 0 (l.drop p) = some ns → runesF m ⟨l.toArray⟩ p = ns.map fun (n:Nat) => (n:Int)
 | 0,p,ns,hp,hm,h => by
  have e:l.drop p = []:=List.drop_eq_nil_of_le (by omega)
  rw [e,signsL_nil,Option.some.injEq] at h
  subst h;rfl
 | m + 1,p,ns,hp,hm,h => by
  have hsz:(⟨l.toArray⟩:ByteArray).size = l.length:=by show l.toArray.size = _;simp
  simp only [runesF,hsz]
  by_cases hlt:p < l.length
  ·rw [if_pos hlt]
   have hne:l.drop p ≠ []:=by rw [idx_d hlt];exact List.cons_ne_nil _ _
   rw [signsL_step (by omega) hne,show signIn 0 (l.drop p) = dec (l.drop p) from rfl] at h
   cases hd:dec (l.drop p) with
   | none => rw [hd] at h;cases h
   | some v =>
    obtain ⟨n,k⟩:=v
    rw [hd] at h
    simp only [Option.map_eq_some_iff] at h
    obtain ⟨ms,h1,rfl⟩:=h
    have hk:=(enc_dec hd).2.2
    have hs:=(enc_dec hd).1
    simp only [isSign,decide_eq_true_eq] at hs
    rw [List.drop_drop] at h1
    rw [List.length_drop] at hk
    rw [dec_utf hd]
    simp only [List.map_cons]
    rw [runes_ok m (p + k) (by omega) (by omega) h1,iConv_s (k:=.i64) (by show n < 2 ^ 63;omega)]
  ·rw [if_neg hlt]
   have e:l.drop p = []:=List.drop_eq_nil_of_le (by omega)
   rw [e,signsL_nil,Option.some.injEq] at h
   subst h;rfl
def sgnR (o:Option (List Nat)):List Int × Bool:=match o with
 | none => ([],false)
 | some ns => (ns.map fun (n:Nat) => (n:Int),true)
theorem i_Signs {x:List UInt8} (hl:x.length ≤ 1048576):F_i_Signs x = some (sgnR (signsL 0 x)):=by
 unfold F_i_Signs
 rw [decide_eq_true (by omega),chk_t,valid_ok,bnd_s]
 unfold validU
 cases h:signsL 0 x with
 | none => rfl
 | some ns =>
  rw [show (some ns).isSome = true from rfl,cnd_t,runes_ok (l:=x) x.length 0 (by omega) (by omega) h];rfl
end
end Go.Vs
