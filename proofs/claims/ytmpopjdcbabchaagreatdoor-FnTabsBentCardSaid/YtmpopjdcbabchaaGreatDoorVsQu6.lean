import Derived.Test.YtmpopjdcbabchaaGreatDoorVsW5
import Derived.Test.YtmpopjdcbabchaaGreatDoorVsQu5
set_option linter.all false
namespace Go.Vs
noncomputable section
theorem nOld {r:Row}(h:r.2.2.2.1=1):rowText r=cellText r.2.1:=by unfold rowText;rw[h,if_neg (by decide +kernel)]
theorem nNew2 {r:Row}(h:r.2.2.2.1=2):rowText r=cellText r.2.2.1:=by unfold rowText;rw[h,if_pos (by decide +kernel)]
theorem nNew3 {r:Row}(h:r.2.2.2.1=3):rowText r=cellText r.2.2.1:=by unfold rowText;rw[h,if_pos (by decide +kernel)]
theorem sameText_of {a b:Cell}{t:List UInt8}(h:cellText a=some t) (k:cellText b=some t):sameText a b=true:=by unfold sameText;rw[h,k];simp
theorem of_sameText {a b:Cell}(h:sameText a b=true):∃t,cellText a=some t/\cellText b=some t:=by
 unfold sameText at h
 cases ha:cellText a with
 | none=>rw[ha]at h;cases h
 | some x =>
  cases hb:cellText b with
  | none=>rw[ha,hb]at h;cases h
  | some y =>
   rw[ha,hb]at h
   simp only[beq_iff_eq]at h
   subst h
   exact⟨x,rfl,rfl⟩
theorem rowOk_mk {key:List UInt8}{o n:Cell}{has:Int}{aside:Bool}(h1:nameOk key=true) (h2:1<=has/\has<=3) (h3:rOldOk o has aside=true) (h4:rNewOk n has=true) (h5:has=3->sameText o n=true):rowOk (key,o,n,has,aside)=true:=by
 unfold rowOk
 simp only[h1,h3,h4,Bool.true_and,Bool.and_true,decide_eq_true h2]
 by_cases e:has=3
 ·rw[h5 e,Bool.or_true]
 ·simp [e]
theorem old_mk {o:Cell}{has:Int}{aside:Bool}(h:has≠2) (h1:1<=o.1/\o.1<=5) (h2:o.2.length<=20) (h3:(cellText o).isSome=true\/(aside=true/\has=1)):rOldOk o has aside=true:=by
 unfold rOldOk
 rw[if_neg h,decide_eq_true h1,decide_eq_true h2]
 rcases h3 with h3|⟨h3,h4⟩
 ·rw[h3];rfl
 ·rw[h3,h4];simp
theorem old_z {aside:Bool}:rOldOk zCell 2 aside=true:=rfl
theorem new_z:rNewOk zCell 1=true:=rfl
theorem new_mk {n:Cell}{has:Int}(h:has≠1) (h1:n.1=0) (h2:(cellText n).isSome=true):rNewOk n has=true:=by
 unfold rNewOk;rw[if_neg h,h1,h2];rfl
structure SaysR (key:List UInt8) (t:Option (List UInt8)) (r:Row):Prop where
 ok:rowOk r=true
 text:rowText r=t
 key:r.1=key
theorem turn_z {c:Cell}:(∃d,turn c 0=(d,false)/\d=c)\/∃d t,turn c 0=(d,true)/\cellText c=some t/\cellText d=some t/\d.1=0:=by
 unfold turn
 cases h1:cellText c with
 | none=>exact .inl ⟨c,rfl,rfl⟩
 | some t =>
  cases h2:cellOf 0 t with
  | none=>exact .inl ⟨c,by simp only[h2],rfl⟩
  | some d=>exact .inr ⟨d,t,by simp only[h2],rfl,(text_of h2).1,(text_of h2).2⟩
theorem says_fill {key:List UInt8}{t:Option (List UInt8)}{r:Row}(h:SaysR key t r):SaysR key t (fillRow r):=by
 obtain⟨k,o,n,has,aside⟩:=r
 obtain⟨h1,h2,h3⟩:=h
 simp only at h3
 subst h3
 unfold fillRow
 simp only
 by_cases e:has=1
 case neg=>rw[if_neg (fun h=>e h.2)];exact⟨h1,h2,rfl⟩
 subst e
 rw[if_pos ⟨h1,rfl⟩]
 obtain⟨g1,_,_,g4,g5,_⟩:=rowOk_has h1
 simp only at g1 g4 g5
 rw[nOld rfl]at h2
 simp only at h2
 obtain⟨q1,q2,q3,q4⟩:=rOldOk_some g4 (by decide)
 rcases turn_z (c:=o) with ⟨d,hd,rfl⟩|⟨d,u,hd,hu,hv,hz⟩
 ·rw[hd]
  exact⟨rowOk_mk g1 (by decide) (old_mk (by decide) ⟨q1,q2⟩ q3 (.inr ⟨rfl,rfl⟩)) g5 (fun h=>by cases h),by rw[nOld rfl];exact h2,rfl⟩
 ·rw[hd]
  exact⟨rowOk_mk g1 (by decide) (old_mk (by decide) ⟨q1,q2⟩ q3 (.inl (by rw[hu];rfl))) (new_mk (by decide) hz (by rw[hv];rfl)) (fun _=>sameText_of hu hv),by rw[nNew3 rfl];simp only;rw[hv,<-hu];exact h2,rfl⟩
theorem says_back {key:List UInt8}{t:Option (List UInt8)}{r:Row}(h:SaysR key t r):SaysR key t (backRow r):=by
 obtain⟨k,o,n,has,aside⟩:=r
 obtain⟨h1,h2,h3⟩:=h
 simp only at h3
 subst h3
 unfold backRow
 simp only
 rw[if_pos h1]
 obtain⟨g1,l1,l2,g4,g5,g6⟩:=rowOk_has h1
 simp only at g1 l1 l2 g4 g5 g6
 by_cases e:has=3
 ·subst e
  rw[if_pos rfl]
  obtain⟨q1,q2,q3,q4⟩:=rOldOk_some g4 (by decide)
  obtain⟨u,hu,hv⟩:=of_sameText (g6 rfl)
  rw[nNew3 rfl]at h2
  simp only at h2
  exact⟨rowOk_mk g1 (by decide) (old_mk (by decide) ⟨q1,q2⟩ q3 (.inl (by rw[hu];rfl))) new_z (fun h=>by cases h),by rw[nOld rfl];simp only;rw[hu,<-hv];exact h2,rfl⟩
 rw[if_neg e]
 by_cases e2:has=2
 ·subst e2
  rw[if_pos rfl]
  have hz:o=zCell:=by
   have:rOldOk o 2 aside=noCell o:=by unfold rOldOk;rw[if_pos rfl]
   rw[this]at g4
   exact noCell_eq g4
  subst hz
  exact⟨rowOk_mk g1 (by decide) old_z g5 (fun h=>by cases h),by rw[nNew2 rfl]at h2 ⊢;exact h2,rfl⟩
 ·rw[if_neg e2];exact⟨h1,h2,rfl⟩
theorem ok_sm {r:Row}(h:rowOk r=true):smR 100 r:=by
 obtain⟨k,o,n,has,aside⟩:=r
 obtain⟨g1,l1,l2,g4,g5,g6⟩:=rowOk_has h
 simp only at g1 l1 l2 g4 g5 g6
 refine⟨by have:=(nameOk_len g1).2;simp only;omega, ?_, ?_⟩
 ·by_cases e:has=2
  ·subst e
   have:rOldOk o 2 aside=noCell o:=by unfold rOldOk;rw[if_pos rfl]
   rw[this]at g4
   rw[noCell_eq g4];simp
  ·have:=(rOldOk_some g4 e).2.2.1;simp only;omega
 ·by_cases e:has=1
  ·subst e
   have:rNewOk n 1=noCell n:=by unfold rNewOk;rw[if_pos rfl]
   rw[this]at g5
   rw[noCell_eq g5];simp
  ·have:=(rNewOk_some g5 e).2.2;simp only;omega
theorem ok_smB {r:Row}(h:rowOk r=true):smR 1048576 r:=(ok_sm h).mono (by omega)
theorem cellOf_tag {cs:Int}{t:List UInt8}{c:Cell}(h:cellOf cs t=some c):c.1=cs/\c.2.length<=20/\cellText c=some t:=by
 have:=cellOf_len cs t
 rw[h]at this
 exact⟨(text_of h).2,this,(text_of h).1⟩
theorem rowOf_ok {ph cs:Int}{key t:List UInt8}(h:(rowOf ph key cs t).2=0):SaysR key (some t) (rowOf ph key cs t).1:=by
 unfold rowOf at h ⊢
 split at h
 case isFalse=>cases h
 rename_i hc
 obtain⟨hp,hk,hcs⟩:=hc
 rw[if_pos ⟨hp,hk,hcs⟩]
 cases hn:cellOf 0 t with
 | none=>rw[hn]at h;cases h
 | some n =>
  obtain⟨n1,n2,n3⟩:=cellOf_tag hn
  simp only[hn]at h ⊢
  have hN:∀a:Bool,SaysR key (some t) (key,zCell,n,2,a):=fun a =>
   ⟨rowOk_mk hk (by decide) old_z (new_mk (by decide) n1 (by rw[n3];rfl)) (fun h=>by cases h),by rw[nNew2 rfl];exact n3,rfl⟩
  have hO:∀o,cellOf cs t=some o->SaysR key (some t) (key,o,zCell,1,false):=fun o ho=>by
   obtain⟨o1,o2,o3⟩:=cellOf_tag ho
   exact⟨rowOk_mk hk (by decide) (old_mk (by decide) (by omega) o2 (.inl (by rw[o3];rfl))) new_z (fun h=>by cases h),by rw[nOld rfl];exact o3,rfl⟩
  have hB:∀o,cellOf cs t=some o->SaysR key (some t) (key,o,n,3,false):=fun o ho=>by
   obtain⟨o1,o2,o3⟩:=cellOf_tag ho
   exact⟨rowOk_mk hk (by decide) (old_mk (by decide) (by omega) o2 (.inl (by rw[o3];rfl))) (new_mk (by decide) n1 (by rw[n3];rfl)) (fun _=>sameText_of o3 n3),by rw[nNew3 rfl];exact n3,rfl⟩
  cases ho:cellOf cs t with
  | none =>
   simp only[ho]at h ⊢
   split
   ·rename_i hq;rw[if_pos hq]at h;cases h
   split
   ·exact hN _
   split
   ·exact hN _
   ·exact hN _
  | some o =>
   simp only[ho]at h ⊢
   split
   ·exact hO o ho
   split
   ·exact hN _
   split
   ·exact hO o ho
   ·exact hB o ho
theorem rowOf_good {ph cs:Int}{key t:List UInt8}{n:Cell}(hp:0<=ph/\ph<=7) (hk:nameOk key=true) (hc:1<=cs/\cs<=5) (hn:cellOf 0 t=some n) (h:(∃o,cellOf cs t=some o)\/(ph≠0/\ph≠7)):(rowOf ph key cs t).2=0:=by
 unfold rowOf
 rw[if_pos ⟨hp,hk,hc⟩,hn]
 simp only
 rcases h with ⟨o,ho⟩|⟨h1,h2⟩
 ·simp only[ho]
  repeat' split
  all_goals rfl
 ·rw[if_neg (by omega)]
  cases cellOf cs t<;>(repeat' split)<;>rfl
theorem putAll_some {cs:Nat}:∀{ns:List Nat},(∀n∈ns,∃b,putIn cs n=some b)->∃l,putAll cs ns=some l
 | [],_=>⟨[],rfl⟩
 | n::ns,h=>by
  obtain⟨b,hb⟩:=h n (by simp)
  obtain⟨l,hl⟩:=putAll_some fun m hm=>h m (List.mem_cons_of_mem _ hm)
  exact⟨b++l,by simp only[putAll,hb,hl]⟩
theorem cellOf_some {cs:Int}{ns:List Nat}(hc:0<=cs/\cs<=5) (hn:∀n∈ns,isSign n=true/\∃b,putIn cs.toNat n=some b) (hl:ns.length<=5):∃c,cellOf cs (textOf ns)=some c:=by
 obtain⟨b,hb⟩:=putAll_some (cs:=cs.toNat) fun n h=>(hn n h).2
 have he:encV cs (textOf ns)=some b:=by
  unfold encV encodeT
  rw[if_pos hc,signsL_of (cs:=0) (by omega) (putAll0 fun n h=>(hn n h).1)]
  exact hb
 have hlen:=putAll_le (cs:=cs.toNat) (by omega) hb
 unfold cellOf
 rw[he]
 simp only
 rw[if_pos (by omega)]
 exact⟨_,rfl⟩
theorem l3Cs_ok {b:List UInt8}{s:Cs}(hb:B20 b) (hs:0<=s.1):∃(v:Int) (s':Cs),Zcy (b,s)=some (v,s')/\(1<=v/\v<=5)/\0<=s'.1:=by
 unfold Zcy
 obtain⟨v,s',e,h1,_,k⟩:=l1Below_ok (s:=(s.1,s.2)) 5 hb hs
 have h1:=h1 (by omega)
 simp only[e,bnd_s]
 rw[iAdd_ok (by omega) (by omega)]
 exact⟨_,_,rfl,by omega,k⟩
theorem l1Name_ok {b:List UInt8}{s:Cs}(hb:B20 b) (hs:0<=s.1):∃(v:List UInt8) (s':Cs),Zbm (b,s)=some (v,s')/\nameOk v=true/\0<=s'.1:=by
 unfold Zbm
 obtain⟨v,s',e,h1,k⟩:=l1Str_ok (s:=(s.1,s.2)) [[97],[98],[99],[100],[101,53]] hb hs (by simp)
 simp only[e,bnd_s]
 have:([[97],[98],[99],[100],[101,53]]:List (List UInt8)).all nameOk=true:=by decide +kernel
 exact⟨_,_,rfl,List.all_eq_true.1 this v h1,k⟩
theorem l1Text_ok {b:List UInt8}{s:Cs}(hb:B20 b) (hs:0<=s.1):∃(v:List UInt8) (s':Cs),Zcu (b,s)=some (v,s')/\v.length<=7/\0<=s'.1:=by
 unfold Zcu
 obtain⟨v,s',e,h1,k⟩:=l1Str_ok (s:=(s.1,s.2)) [[],[97],[98,49],[115,105,120,108,101,116],[115,101,118,101,110,108,101],[65],[97,32,98],[0],[104,101,108,108,111]] hb hs (by simp)
 simp only[e,bnd_s]
 have:([[],[97],[98,49],[115,105,120,108,101,116],[115,101,118,101,110,108,101],[65],[97,32,98],[0],[104,101,108,108,111]]:List (List UInt8)).all (fun v=>decide (v.length<=7))=true:=by decide +kernel
 exact⟨_,_,rfl,of_decide_eq_true (List.all_eq_true.1 this v h1),k⟩
theorem l9Draw_ok {b:List UInt8}{s:Cs}(hb:B20 b) (hs:0<=s.1):∃(r:Row) (s':Cs),Zcc (b,s)=some (r,s')/\rowOk r=true/\0<=s'.1:=by
 unfold Zcc
 obtain⟨cs,s1,e1,l1,k1⟩:=l3Cs_ok (s:=(s.1,s.2)) hb hs
 simp only[e1,bnd_s]
 obtain⟨name,s2,e2,l2,k2⟩:=l1Name_ok (s:=(s1.1,s1.2)) hb k1
 have hname:name.length<9223372036854775807:=by have:=(nameOk_len l2).2;omega
 simp only[e2,bnd_s]
 obtain⟨v3,s3,e3,_,_,k3⟩:=l1Below_ok (s:=(s2.1,s2.2)) 6 hb k2
 simp only[e3,bnd_s,iEq_x]
 by_cases c0:(v3:Int)=0
 ·rw[decide_eq_true c0,cnd_t]
  refine⟨_,_,rfl, ?_,k3⟩
  exact rowOk_mk l2 (by decide) (old_mk (by decide) (by decide) (by decide) (.inr ⟨rfl,rfl⟩)) new_z (fun h=>by cases h)
 rw[decide_eq_false c0,cnd_f]
 have tot:∀{ns:List Nat} {c:Int},(∀n∈ns,HasS c n)->ns.length<=5->∃d,cellOf 0 (textOf ns)=some d:=fun h hl=>cellOf_some (by omega) (fun n hn=>⟨(h n hn).1,_,putIn_0 (h n hn).1⟩) hl
 by_cases c1:(v3:Int)=1
 ·rw[decide_eq_true c1,cnd_t]
  obtain⟨ns,s4,e4,l4,g4,k4⟩:=l5Text_ok (s:=(s3.1,s3.2)) cs 5 hb k3 (by omega)
  have hl:=textOf_len ns
  simp only[show ((5:Nat):Int)=5 from rfl]at e4
  simp only[e4,bnd_s]
  rw[s_RowOf hname (by omega),bnd_s]
  obtain⟨d,hd⟩:=tot g4 l4
  obtain⟨o,ho⟩:=cellOf_some (cs:=cs) (by omega) (fun n hn=>⟨(g4 n hn).1,(g4 n hn).2 (by omega) (by omega)⟩) l4
  exact⟨_,_,rfl,(rowOf_ok (rowOf_good (by decide) l2 l1 hd (.inl ⟨o,ho⟩))).ok,k4⟩
 rw[decide_eq_false c1,cnd_f]
 obtain⟨v4,s4,e4,l4,_,k4⟩:=l1Below_ok (s:=(s3.1,s3.2)) 8 hb k3
 have l4:=l4 (by omega)
 simp only[e4,bnd_s]
 obtain⟨v5,s5,e5,_,k5⟩:=l1Int_ok (s:=(s4.1,s4.2)) [cs,cs,cs,0] hb k4 (by simp)
 simp only[e5,bnd_s]
 obtain⟨ns,s6,e6,l6,g6,k6⟩:=l5Text_ok (s:=(s5.1,s5.2)) v5 5 hb k5 (by omega)
 have hl:=textOf_len ns
 simp only[show ((5:Nat):Int)=5 from rfl]at e6
 simp only[e6,bnd_s]
 rw[s_RowOf hname (by omega),bnd_s]
 obtain⟨d,hd⟩:=tot g6 l6
 have fin:∀(r:Row),rowOk r=true->∃(r':Row) (s':Cs),(bnd (Zc ((b,(s6.1,s6.2)),5)) (fun z9=>(cnd (iEq z9.1 0) (bnd (Zca r) (fun z10=>(some (z10,(z9.2.1,z9.2.2))))) (cnd (iEq z9.1 1) (bnd (Zcb r) (fun z10=>(some (z10,(z9.2.1,z9.2.2))))) (some (r,(z9.2.1,z9.2.2)))))))=some (r',s')/\rowOk r'=true/\0<=s'.1:=by
  intro r hr
  obtain⟨v9,s9,e9,_,_,k9⟩:=l1Below_ok (s:=(s6.1,s6.2)) 5 hb k6
  simp only[e9,bnd_s,iEq_x]
  by_cases d0:(v9:Int)=0
  ·rw[decide_eq_true d0,cnd_t,s_FillRow (ok_smB hr),bnd_s]
   exact⟨_,_,rfl,(says_fill (t:=_) ⟨hr,rfl,rfl⟩).ok,k9⟩
  rw[decide_eq_false d0,cnd_f]
  by_cases d1:(v9:Int)=1
  ·rw[decide_eq_true d1,cnd_t,s_BackRow (ok_smB hr),bnd_s]
   exact⟨_,_,rfl,(says_back (t:=_) ⟨hr,rfl,rfl⟩).ok,k9⟩
  ·rw[decide_eq_false d1,cnd_f]
   exact⟨_,_,rfl,hr,k9⟩
 have h120:textOf [120]=[120]:=by decide
 obtain⟨d2,hd2⟩:=cellOf_some (cs:=0) (ns:=[120]) (by omega) (fun n hn=>by simp only[List.mem_singleton]at hn;subst hn;exact⟨by decide,_,putIn_0 (by decide)⟩) (by simp)
 rw[h120]at hd2
 by_cases hg:(rowOf (v4:Int) name cs (textOf ns)).2=0
 ·rw[hg,iNe_r,cnd_f,joinX_l]
  exact fin (rowOf (v4:Int) name cs (textOf ns)).1 (rowOf_ok hg).ok
 ·rw[iNe_y hg,cnd_t,s_RowOf hname (by simp),bnd_s,joinX_l]
  exact fin (rowOf 5 name cs [120]).1 (rowOf_ok (rowOf_good (by decide) l2 l1 hd2 (.inr (by decide)))).ok
theorem l9Any_ok {b:List UInt8}{s:Cs}(hb:B20 b) (hs:0<=s.1):∃(r:Row) (s':Cs),Zcw (b,s)=some (r,s')/\smR 100 r/\0<=s'.1:=by
 rw[Zcw]
 obtain⟨r,s1,e1,l1,k1⟩:=l9Draw_ok (s:=s) hb hs
 have l1:=ok_sm l1
 obtain⟨q1,q2,q3⟩:=l1
 simp only[e1,bnd_s]
 obtain⟨v2,s2,e2,l2,_,k2⟩:=l1Below_ok (s:=s1) 14 hb k1
 simp only[e2,bnd_s,iEq_x]
 by_cases c0:(v2:Int)=0
 ·rw[decide_eq_true c0,cnd_t]
  obtain⟨v,s3,e3,h3,k3⟩:=l1Text_ok (s:=s2) hb k2
  rw[e3,bnd_s,joinX_l]
  exact⟨_,_,rfl,⟨by simp only;omega,q2,q3⟩,k3⟩
 rw[decide_eq_false c0,cnd_f]
 by_cases c1:(v2:Int)=1
 ·rw[decide_eq_true c1,cnd_t]
  obtain⟨v,s3,e3,h3,k3⟩:=l1Int_ok (s:=s2) [0,1,2,3,4,-1] hb k2 (by simp)
  rw[e3,bnd_s,joinX_l]
  exact⟨_,_,rfl,⟨q1,q2,q3⟩,k3⟩
 rw[decide_eq_false c1,cnd_f]
 by_cases c2:(v2:Int)=2
 ·rw[decide_eq_true c2,cnd_t,joinX_l]
  exact⟨_,_,rfl,⟨q1,q2,q3⟩,k2⟩
 rw[decide_eq_false c2,cnd_f]
 by_cases c3:(v2:Int)=3
 ·rw[decide_eq_true c3,cnd_t]
  obtain⟨v,s3,e3,h3,k3⟩:=l8Any_ok (s:=s2) hb k2
  rw[e3,bnd_s,joinX_l]
  exact⟨_,_,rfl,⟨q1,h3,q3⟩,k3⟩
 rw[decide_eq_false c3,cnd_f]
 by_cases c4:(v2:Int)=4
 ·rw[decide_eq_true c4,cnd_t]
  obtain⟨v,s3,e3,h3,k3⟩:=l8Any_ok (s:=s2) hb k2
  rw[e3,bnd_s,joinX_l]
  exact⟨_,_,rfl,⟨q1,q2,h3⟩,k3⟩
 rw[decide_eq_false c4,cnd_f]
 by_cases c5:(v2:Int)=5
 ·rw[decide_eq_true c5,cnd_t,joinX_l]
  exact⟨_,_,rfl,⟨q1,by simp,q3⟩,k2⟩
 ·rw[decide_eq_false c5,cnd_f,joinX_l]
  exact⟨_,_,rfl,⟨q1,q2,q3⟩,k2⟩
end
end Go.Vs
