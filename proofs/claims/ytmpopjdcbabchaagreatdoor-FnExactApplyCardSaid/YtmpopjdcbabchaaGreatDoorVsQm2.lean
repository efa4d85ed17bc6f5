import Derived.Test.YtmpopjdcbabchaaGreatDoorVsW5
import Derived.Test.YtmpopjdcbabchaaGreatDoorVsQm1
set_option linter.all false
namespace Go.Vs
noncomputable section
abbrev Cell:=Int×List UInt8
theorem szByteS_ok {l:List UInt8}{k:Int}(h0:0<=k) (hk:k<=4611686018427387904) (hl:l.length<=9223372036854775807):SzR (Zdv (l,k)) k ((l.length:Int)<=k):=by
 have e:iSub .i64 k (lLen l)=k-l.length:=iSub_ok (by simp only[lLen_def];omega) (by simp only[lLen_def];omega)
 exact (SzR.sub (P:=True) h0 hk hl fun h=>by simp only[e];exact SzR.done).mono (Int.le_refl _) fun h=>h.1
theorem toByteS_ok {x:List UInt8}(hl:x.length<=140737488355328):Zcp x=some x:=by
 have:Zcp x=toLst (fun b=>some b) 0 1 x:=rfl
 rw[this]
 exact toLst_ok (by omega) (by omega) fun _ _=>rfl
theorem eqByteS_ok {x:List UInt8}(hl:x.length<9223372036854775807):Zdl (x,x)=some true:=by
 unfold Zdl
 simp only[iNe_r,cnd_f]
 refine loop_exact (fun i=>(i:Int)) x.length true ?_ ?_ 0 rfl
 ·intro i hi
  unfold Zfb
  rw[iLt_y (by simp only[lLen_def];omega),cnd_t,idx_at hi,bnd_s,bnd_s,iNe_r,cnd_f,iAdd_1 (by omega)]
 ·unfold Zfb
  rw[iLt_n (by simp only[lLen_def];omega),cnd_f]
theorem szCell_ok {c:Cell}{k:Int}(h0:0<=k) (hk:k<=4611686018427387904) (hl:c.2.length<=9223372036854775807):SzR (Zcn (c,k)) k ((c.2.length:Int)<=k):=SzR.one h0 (szByteS_ok h0 hk hl)
theorem toCell_ok {c:Cell}(hl:c.2.length<=140737488355328):Zbx c=some c:=by
 unfold Zbx;rw[toByteS_ok hl];rfl
theorem eqCell_ok {c:Cell}(hl:c.2.length<9223372036854775807):Zck (c,c)=some true:=by
 unfold Zck
 simp only[iNe_r,cnd_f,eqByteS_ok hl,bnd_s,bNot_t]
def HB (m:Int) (b:UInt8) (m':Int):Prop:=m<9223372036854775807/\0<=m/\b=u8 (iConv .u8 m)/\m'=m+1
theorem markByteS_big {x:List UInt8}{m:Int}(h0:0<=m) (hm:m<=1152921504606846976) (hl:x.length<=140737488355328):∃m' x',Zbi (x,m)=some (m',x')/\Zbu (x',m)=some m'/\x'.length=x.length/\m<=m'/\m'<=m+x.length:=by
 obtain⟨l',m',h1,h2,h3,h4,h5⟩:=mark_loop (H:=HB) (K:=1) (x:=x) (m0:=m) (step:=Zel) (by omega) (by omega) (by
  intro l k i hi hll hx hk1 hk2
  refine⟨u8 (iConv .u8 k),k+1, ?_,⟨by omega,by omega,rfl,rfl⟩, ?_, ?_⟩
  ·simp only[Zel]
   rw[iLt_y (by simp only[lLen_def];omega),cnd_t]
   simp (disch:=omega) only[idx_n,hx,bnd_s,nOf_n,iAdd_ok]
  ·omega
  ·omega) (by
  intro l k hll
  simp only[Zel]
  rw[iLt_n (by simp only[lLen_def];omega),cnd_f])
 refine⟨m',l', ?_, ?_,h3,h4,by omega⟩
 ·unfold Zbi
  simp only[h1,joinX_l,h3,nEq_r,chk_t]
 ·unfold Zbu
  simp only
  rw[held_loop (H:=HB) (m1:=m') (by omega) h2 (by
   rintro k k' i hi ⟨q1,q2,a,b⟩
   simp only[Zfc]
   rw[iLt_y (by simp only[lLen_def];omega),cnd_t,idx_at hi,bnd_s,a,iNe_r,cnd_f,b,iAdd_ok (by omega) (by omega),iAdd_ok (by omega) (by omega)]) (by
   intro k
   simp only[Zfc]
   rw[iLt_n (by simp only[lLen_def];omega),cnd_f])]
  rfl
theorem markByteS_ok {x:List UInt8}{m:Int}(h0:0<=m) (hm:m<=1152921504606846976) (hl:x.length<=1048576):∃m' x',Zbi (x,m)=some (m',x')/\Zbu (x',m)=some m'/\x'.length=x.length/\m<=m'/\m'<=m+1048576:=by
 obtain⟨m',x',a,b,c,d,e⟩:=markByteS_big (x:=x) h0 hm (by omega)
 exact⟨m',x',a,b,c,d,by omega⟩
theorem markText_ok {m : Int} (h : m < 9223372036854775808) : ∃ s, Zcl m = some s := by
  unfold Zcl
  by_cases h0 : m ≤ 0
  · rw [iLe_y h0]; exact ⟨_, rfl⟩
  rw [iLe_n (by omega), cnd_f]
  have hin : 0 ≤ ((m, []) : Int × List UInt8).1 ∧ ((m, []) : Int × List UInt8).1 < 2 ^ (63 - 0) ∧ ((m, []) : Int × List UInt8).2.length = 0 := by
    have e63 : (2 : Int) ^ 63 = 9223372036854775808 := by decide
    rw [Nat.sub_zero, e63]
    exact ⟨by simp only; omega, h, rfl⟩
  obtain ⟨r, h1, s, rfl, h2⟩ := loop_inv (step := Zek)
    (fun i s => 0 ≤ s.1 ∧ s.1 < 2 ^ (63 - i) ∧ s.2.length = i) 63 (fun r => ∃ s, r = .inl s ∧ s.length ≤ 63) (by
      rintro i ⟨z, l⟩ hi ⟨a, b, c⟩
      simp only [Zek] at a b c ⊢
      by_cases hz : 0 < z
      · rw [iGt_y hz, cnd_t, small_ok (by simp only [List.length_cons, List.length_nil]; omega), chk_t]
        left
        have e : iQuo .i64 z 10 = z.tdiv 10 := by
          have : z.tdiv 10 = z / 10 := Int.tdiv_eq_ediv_of_nonneg a
          have h63 : (2 : Int) ^ (63 - i) ≤ 2 ^ 63 := by
            have := Nat.pow_le_pow_right (n := 2) (by decide) (show 63 - i ≤ 63 by omega)
            exact_mod_cast this
          have e63 : (2 : Int) ^ 63 = 9223372036854775808 := by decide
          refine wrap_i64 ?_ ?_ <;> omega
        refine ⟨_, rfl, ?_, ?_, ?_⟩
        · simp only [e]; rw [Int.tdiv_eq_ediv_of_nonneg a]; omega
        · simp only [e]; rw [Int.tdiv_eq_ediv_of_nonneg a]
          have : (2 : Int) ^ (63 - i) = 2 * 2 ^ (63 - (i + 1)) := by
            rw [show 63 - i = (63 - (i + 1)) + 1 by omega, Int.pow_succ]; omega
          omega
        · simp only [lApp, List.length_append, List.length_cons, List.length_nil, c]; omega
      · rw [iGt_n (by omega), cnd_f]
        exact .inr ⟨_, rfl, l, rfl, by omega⟩)
    (by
      rintro ⟨z, l⟩ ⟨a, b, c⟩
      simp only [Zek, Nat.sub_self, Int.pow_zero] at a b c ⊢
      rw [iGt_n (by omega), cnd_f]
      exact ⟨_, rfl, l, rfl, by omega⟩) (m, []) hin
  rw [h1, joinX_l, small_ok (by simp only [List.length_cons, List.length_nil]; omega)]
  exact ⟨_, rfl⟩
abbrev Row:=List UInt8×Cell×Cell×Int×Bool
def smR (B:Nat) (r:Row):Prop:=r.1.length<=B/\r.2.1.2.length<=B/\r.2.2.1.2.length<=B
theorem szRow_ok {r:Row}{k:Int}(h0:0<=k) (hk:k<=1048576) (hl:smR 9223372036854775807 r):SzR (Zbk (r,k)) k (smR 1048576 r):=by
 obtain⟨a,b,c⟩:=hl
 have e:iSub .i64 k (lLen r.1)=k-r.1.length:=iSub_ok (by simp only[lLen_def];omega) (by simp only[lLen_def];omega)
 unfold Zbk
 refine (SzR.sub (P:=r.2.1.2.length<=1048576/\r.2.2.1.2.length<=1048576) h0 (by omega) a fun h=>?_).mono (Int.le_refl _) fun h=>⟨by have:=h.1;omega,h.2⟩
 simp only[e]
 refine SzR.seq (by omega) ((szCell_ok (c:=r.2.1) (by omega) (by omega) b).mono (Int.le_refl _) fun h=>by omega) fun z hz hz2=>?_
 exact SzR.one hz ((szCell_ok (c:=r.2.2.1) hz (by omega) c).mono (Int.le_refl _) fun h=>by omega)
theorem toRow_ok {r:Row}(h:smR 140737488355328 r):Zy r=some r:=by
 unfold Zy
 rw[toCell_ok (c:=(r.2.1.1,r.2.1.2)) h.2.1,bnd_s,toCell_ok (c:=(r.2.2.1.1,r.2.2.1.2)) h.2.2];rfl
theorem eqRow_ok {r:Row}(h:smR 9223372036854775806 r):Zbh (r,r)=some true:=by
 have e1:=eqCell_ok (c:=(r.2.1.1,r.2.1.2)) (Nat.lt_succ_of_le h.2.1)
 have e2:=eqCell_ok (c:=(r.2.2.1.1,r.2.2.1.2)) (Nat.lt_succ_of_le h.2.2)
 unfold Zbh
 simp only[iNe_r,cnd_f,sEq_r,bNot_t,e1,e2,bnd_s,bNe_r]
theorem smR.mono {A B:Nat}{r:Row}(h:smR A r) (hab:A<=B):smR B r:=⟨Nat.le_trans h.1 hab,Nat.le_trans h.2.1 hab,Nat.le_trans h.2.2 hab⟩
def cellOk (c:Cell):Bool:=decide (0<=c.1/\c.1<=5)&&decide (c.2.length<=20)
def cellText (c:Cell):Option (List UInt8):=if cellOk c then decodeT c.1.toNat c.2 else none
def sameText (a b:Cell):Bool:=match cellText a,cellText b with
 | some x,some y=>x==y
 | _,_=>false
theorem s_CellOk (c:Cell):Zs c=some (cellOk c):=by
 unfold Zs Zbz cellOk
 simp only[s_In,bnd_s,cnd_if]
 split
 ·rename_i h
  have:(0:Int)<=c.1/\c.1<=5:=by simpa using h
  rw[decide_eq_true this]
  simp only[Bool.true_and,iLe,lLen_def]
  exact congrArg some (decide_eq_decide.2 (by omega))
 ·rename_i h
  have:¬((0:Int)<=c.1/\c.1<=5):=by simpa using h
  rw[decide_eq_false this];rfl
theorem i_CellOk (c:Cell):Zcg c=some (cellOk c):=s_CellOk c
theorem cellText_f {c:Cell}{F:Int×List UInt8->Option (List UInt8×Bool)}(hF:∀{cs:Nat}{b:List UInt8},cs<=5->b.length<=1048576->F ((cs:Int),b)=some (optR (decodeT cs b))) :
  (bnd (some (cellOk c)) (fun z1=>(cnd (bNot z1) (some ([],false)) (bnd (F (c.1,c.2)) (fun z2=>(some (z2.1,z2.2)))))))=some (optR (cellText c)):=by
 rw[bnd_s]
 unfold cellText
 cases h:cellOk c with
 | false=>rfl
 | true =>
  simp only[bNot_t,cnd_f,if_true]
  simp only[cellOk,Bool.and_eq_true,decide_eq_true_eq]at h
  obtain⟨⟨h0,h5⟩,hl⟩:=h
  obtain⟨t,b⟩:=c
  simp only at h0 h5 hl ⊢
  obtain⟨n,rfl⟩:=Int.eq_ofNat_of_zero_le h0
  rw[hF (by omega) (by omega),bnd_s];rfl
theorem s_CellText (c:Cell):Zm c=some (optR (cellText c)):=by
 unfold Zm
 rw[show Zs (c.1,c.2)=some (cellOk c) from s_CellOk c]
 exact cellText_f fun h1 h2=>s_Decode h1 h2
theorem i_CellText (c:Cell):Zbe c=some (optR (cellText c)):=by
 unfold Zbe
 rw[show Zcg (c.1,c.2)=some (cellOk c) from i_CellOk c]
 exact cellText_f fun h1 h2=>i_Decode h1 h2
theorem same_f {a b:Cell}{F:Cell->Option (List UInt8×Bool)}(hF:∀c,F c=some (optR (cellText c))):(bnd (F (a.1,a.2)) (fun z1=>(bnd
 (F (b.1,b.2)) (fun z2=>(cnd z1.2 (cnd z2.2 (some (sEq z1.1 z2.1)) (some false)) (some false))))))=some (sameText a b):=by
 rw[hF,bnd_s,hF,bnd_s]
 unfold sameText
 cases h1:cellText a<;>cases h2:cellText b<;>rfl
theorem s_SameText (a b:Cell):Zd (a,b)=some (sameText a b):=same_f s_CellText
theorem i_SameText (a b:Cell):Zeg (a,b)=some (sameText a b):=same_f i_CellText
def noCell (c:Cell):Bool:=decide (c.1=0)&&c.2.isEmpty
def nameB (c:UInt8):Bool:=decide (97<=c.toNat/\c.toNat<=122)||decide (48<=c.toNat/\c.toNat<=57)
def nameOk (s:List UInt8):Bool:=s.all nameB&&decide (1<=s.length/\s.length<=6)
def rOldOk (o:Cell) (has:Int) (aside:Bool):Bool:=if has=2 then noCell o else decide (1<=o.1/\o.1<=5)&&decide (o.2.length<=20)&&((cellText o).isSome||(aside&&decide (has=1)))
def rNewOk (n:Cell) (has:Int):Bool:=if has=1 then noCell n else decide (n.1=0)&&(cellText n).isSome
def rowOk (r:Row):Bool:=nameOk r.1&&decide (1<=r.2.2.2.1/\r.2.2.2.1<=3)&&rOldOk r.2.1 r.2.2.2.1 r.2.2.2.2&&rNewOk r.2.2.1 r.2.2.2.1&&(decide (r.2.2.2.1≠3)||sameText r.2.1 r.2.2.1)
theorem s_NameOk {s : List UInt8} (hl : s.length < 9223372036854775807) : Zbl s = some (nameOk s) := by
  unfold Zbl
  have stp : ∀ i (h : i < s.length), Zcs s (i : Int) = if nameB s[i] then some (.inl ((i + 1 : Nat) : Int)) else some (.inr (.inr false)) := by
    intro i h
    unfold Zcs
    rw [iLt_y (by rw [lLen_def]; omega), cnd_t, idx_at h]
    simp only [bnd_s, conv64, s_In, iAdd_1 (show i < 9223372036854775807 by omega)]
    unfold nameB
    by_cases h1 : 97 ≤ s[i].toNat ∧ s[i].toNat ≤ 122
    · rw [decide_eq_true (show (97 : Int) ≤ (s[i].toNat : Int) ∧ (s[i].toNat : Int) ≤ 122 by omega), decide_eq_true h1]; rfl
    · rw [decide_eq_false (show ¬ ((97 : Int) ≤ (s[i].toNat : Int) ∧ (s[i].toNat : Int) ≤ 122) by omega), decide_eq_false h1]
      by_cases h2 : 48 ≤ s[i].toNat ∧ s[i].toNat ≤ 57
      · rw [decide_eq_true (show (48 : Int) ≤ (s[i].toNat : Int) ∧ (s[i].toNat : Int) ≤ 57 by omega), decide_eq_true h2]; rfl
      · rw [decide_eq_false (show ¬ ((48 : Int) ≤ (s[i].toNat : Int) ∧ (s[i].toNat : Int) ≤ 57) by omega), decide_eq_false h2]; rfl
  obtain ⟨r, h1, h2⟩ := loop_inv (step := Zcs s) (fun i z => z = (i : Int) ∧ i ≤ s.length ∧ s.all nameB = (s.drop i).all nameB) s.length
    (fun r => joinX (some r) (fun (z1 : Unit) => (bnd (Zg ((lLen s), (1, 6))) (fun z2 => (some z2)))) = some (nameOk s)) (by
      rintro i z hi ⟨rfl, _, hp⟩
      rw [stp i hi]
      rw [List.drop_eq_getElem_cons hi, List.all_cons] at hp
      cases hb : nameB s[i] with
      | true =>
        left
        rw [hb, Bool.true_and] at hp
        exact ⟨_, by rw [if_pos rfl], rfl, hi, hp⟩
      | false =>
        right
        rw [hb, Bool.false_and] at hp
        exact ⟨_, by rw [if_neg (by decide)], by rw [joinX_r, nameOk, hp]; rfl⟩)
    (by
      rintro z ⟨rfl, _, hp⟩
      refine ⟨.inl (), ?_, ?_⟩
      · unfold Zcs
        rw [iLt_n (by rw [lLen_def]; exact Int.le_refl _), cnd_f]
      · rw [joinX_l, s_In, bnd_s, nameOk, hp, List.drop_length]
        simp only [List.all_nil, Bool.true_and, lLen_def]
        exact congrArg some (decide_eq_decide.2 (by omega))) 0 ⟨rfl, Nat.zero_le _, by rw [List.drop_zero]⟩
  rw [h1, h2]
theorem i_NameOk {s:List UInt8}(hl:s.length<9223372036854775807):Zcf s=some (nameOk s):=s_NameOk hl
theorem iCopyRow_ok {r:Row}(h:smR 1048576 r):Zn r=some r:=by
 have e:∀c:Cell,c.2.length<=1048576->Zce c=some c:=fun c h=>by
  unfold Zce;rw[joined1_ok (by omega)];rfl
 unfold Zn
 rw[e (r.2.1.1,r.2.1.2) h.2.1,bnd_s,e (r.2.2.1.1,r.2.2.1.2) h.2.2];rfl
theorem sCopyRow_ok {r:Row}(h:smR 1048576 r):Zl r=some r:=by
 have e:∀c:Cell,c.2.length<=1048576->Zby c=some c:=fun c h=>by
  unfold Zby;rw[room_ok (by omega)];rfl
 unfold Zl
 rw[e (r.2.1.1,r.2.1.2) h.2.1,bnd_s,e (r.2.2.1.1,r.2.2.1.2) h.2.2];rfl
end
end Go.Vs
