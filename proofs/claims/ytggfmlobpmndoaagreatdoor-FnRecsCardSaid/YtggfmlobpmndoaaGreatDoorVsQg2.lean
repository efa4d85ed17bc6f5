import Derived.Test.YtggfmlobpmndoaaGreatDoorVsW5
import Derived.Test.YtggfmlobpmndoaaGreatDoorVsQg1
set_option linter.all false
namespace Go.Vs
noncomputable section
def Asc (l l':List UInt8):Prop:=∃ m,m<=l.length/\l'=l.drop m/\∀ b∈l.take m,b.toNat<128
theorem Asc.refl (l:List UInt8):Asc l l:=⟨0,Nat.zero_le _,rfl,fun b hb=>by simp at hb⟩
theorem Asc.more {l l':List UInt8}{m:Nat}(h:Asc l l') (hm:m<=l'.length) (hb:∀ b∈l'.take m,b.toNat<128):Asc l (l'.drop m):=by
 obtain⟨k,h1,rfl,h2⟩:=h
 rw[List.length_drop] at hm
 refine⟨k+m,by omega,by rw[List.drop_drop],fun b hb'=>?_⟩
 rw[List.take_add,List.mem_append] at hb'
 rcases hb' with h | h
 ·exact h2 b h
 ·exact hb b h
theorem cut_drop {l:List UInt8}{k:Nat}:lTake ((nOf (lLen l)) - (nOf (k:Int))) (lDrop (nOf (k:Int)) l)=l.drop k:=by
 simp only[lTake,lDrop,nOf,lLen_def,Int.toNat_natCast]
 rw[List.take_of_length_le (by rw[List.length_drop];omega)]
def Clear (n:Nat):Prop:=n &&& 9259542123273814144=0
instance (n:Nat):Decidable (Clear n):=Nat.decEq _ _
theorem cut2 {l:List UInt8}:lTake ((nOf (lLen l)) - (nOf 2)) (lDrop (nOf 2) l)=l.drop 2:=cut_drop (k:=2)
theorem cut3 {l:List UInt8}:lTake ((nOf (lLen l)) - (nOf 3)) (lDrop (nOf 3) l)=l.drop 3:=cut_drop (k:=3)
theorem cut4 {l:List UInt8}:lTake ((nOf (lLen l)) - (nOf 4)) (lDrop (nOf 4) l)=l.drop 4:=cut_drop (k:=4)
theorem within_k {l:List UInt8}{k:Int}(h0:0<=k) (h:k<=l.length):within k (lLen l) (lLen l)=true:=decide_eq_true (by simp only[lLen_def];omega)
def vsR (l:List UInt8) (o:Option (Nat×Nat)):List UInt8 ⊕ Bool:=match o with
 | none=>.inr false
 | some (_,k)=>.inl (l.drop k)
theorem isCont_iff (b:UInt8):isCont b=true ↔ 128<=b.toNat/\b.toNat<192:=by simp [isCont]
theorem vs2 {b0:UInt8}{r:List UInt8}{x lo hi:UInt8}(h:128<=b0.toNat) (hf:gFirst[b0.toNat]? = some x) (ht:XT x lo hi 2) (hlo:lo.toNat=128) (hhi:hi.toNat=191):S_utf8_ValidString_1 (b0::r)=some (vsR (b0::r) (dec2 b0 r)):=by
 have h0:=y_lt b0
 have e1:idx gFirst (Int.ofNat (0+nOf (y2i b0)*1))=some x:=by
  rw[y2i_n,nOf_n,idx_ofNat];simpa using hf
 have e128:y2i (u8 128)=128:=y2i_u8c 128 (by omega)
 have e191:y2i (u8 191)=191:=y2i_u8c 191 (by omega)
 unfold S_utf8_ValidString_1
 rw[iGt_y (by simp only[lLen_def,List.length_cons];omega),cnd_t,show idx (b0::r) 0=some b0 from rfl,bnd_s]
 simp only[cut2,cut3,cut4,e128,e191]
 rw[iLt_n (by rw[y2i_n];omega),cnd_f,joinX_l,iLe_y (by rw[y2i_n];omega),chk_t,iLt_y (by rw[y2i_n];omega),chk_t,e1,bnd_s,ht.b,chk_t,ht.c,chk_t,ht.d,bnd_s,ht.e,bnd_s,ht.f]
 rw[show iEq ((2:Nat):Int) 2=true from rfl,cnd_t]
 cases r with
 | nil=>rfl
 | cons b1 r =>
  have h1:=y_lt b1
  rw[iLt_n (by simp only[lLen_def,List.length_cons];omega),cnd_f,show idx (b0::b1::r) 1=some b1 from rfl,bnd_s]
  simp only[dec2]
  by_cases c1:b1.toNat<128
  ·rw[iLt_y (by rw[y2i_n,y2i_n];omega),cnd_t,if_neg (by simp only[isCont_iff];omega)];rfl
  rw[iLt_n (by rw[y2i_n,y2i_n];omega),cnd_f,bnd_s]
  by_cases c2:191<b1.toNat
  ·rw[iLt_y (by rw[y2i_n,y2i_n];omega),cnd_t,if_neg (by simp only[isCont_iff];omega)];rfl
  rw[iLt_n (by rw[y2i_n,y2i_n];omega),cnd_f,within_k (by omega) (by simp only[List.length_cons];omega),chk_t,if_pos (by simp only[isCont_iff];omega)];rfl
end
end Go.Vs
