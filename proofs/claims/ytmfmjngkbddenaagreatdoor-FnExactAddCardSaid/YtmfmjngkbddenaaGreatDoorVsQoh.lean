import Derived.Test.YtmfmjngkbddenaaGreatDoorVsW5
import Derived.Test.YtmfmjngkbddenaaGreatDoorVsQof
set_option linter.all false
namespace Go.Vs
noncomputable section
def J6 (u:Cx) (r:Rec):Dv :=
 let d:Dv:=(u.1.1,wrC u.1.1 u.1.2.1 u.1.2.2.1 u.1.2.2.2 (Ew u.2.2.1 u.2.2.2) (Ek u.2.2.1 u.2.2.2 r))
 flC d.1 d.2.1 d.2.2.1 d.2.2.2
def Pp (u:Cx) (t:Tab) (r:Rec):Cx×Bool:=if u.1.2.2.2=true\/u.2.2.2=30 then (u,false) else if (J6 u r).2.2.2=true then ((J6 u r,u.2),false) else ((J6 u r,(t,(u.2.2.1,Ai .i64 u.2.2.2 1))),true)
def Ei (s:Cx):Cx:=if s.2.2.2=30 then Pc s else s
def Jh (s:Cx) (r:Rec):Cx×Bool:=if H1 s=true/\s.1.2.2.2=false/\(Jj s.2.1 r).2=true then Pp (Ei s) (Jj s.2.1 r).1 r else (s,false)
theorem Zta {σ ρ:Type}{o:Option (σ ⊕ ρ)}{f:σ->Option ρ}{a:σ}{r:Option ρ}(h:o=some (.inl a)) (h2:f a=r):Ao o f=r:=by rw[h,A3,h2]
theorem Yax {α:Type}{b:Bool}{x y:Option α}(h:b=false):cnd b x y=y:=by rw[h];rfl
theorem Yay {α:Type}{b:Bool}{x y:Option α}(h:b=true):cnd b x y=x:=by rw[h];rfl
theorem Yl8 {s:Cx}(h:dOk s.1=true):dOk (Pc s).1=true:=by
 unfold Pc;split
 ·exact Zke h
 ·exact h
theorem Zi1 {s:Cx}(h:dOk s.1=true):dOk (Ei s).1=true:=by
 unfold Ei;split
 ·exact Yl8 h
 ·exact h
theorem Zu5 {u:Cx}{r:Rec}(h:dOk u.1=true):dOk (J6 u r)=true:=Xb (Sa h)
theorem Yns {u:Cx}{t:Tab}{r:Rec}(h:dOk u.1=true) (hr:smC 1048576 r) :
  (cnd u.1.2.2.2 (some (u,false)) (cnd (iEq u.2.2.2 30) (some (u,false)) (bnd (N4 u.2.2) fun z5=>bnd (P5 (u.2.2.1,(u.2.2.2,r))) fun z6=>bnd (H7 (u.1,(z5,z6))) fun z7=>bnd (Je z7) fun z8=>cnd z8.2.2.2 (some ((z8,u.2),false)) (some ((z8,(t,(u.2.2.1,Ai .i64 u.2.2.2 1))),true)))))=some (Pp u t r):=by
 have w:=wr2 (n:=Ew u.2.2.1 u.2.2.2) (b:=Ek u.2.2.1 u.2.2.2 r) h (Zel _ _ _);have k:=Sa (n:=Ew u.2.2.1 u.2.2.2) (b:=Ek u.2.2.1 u.2.2.2 r) h;have f:=fl2 k;unfold Pp;cases hd:u.1.2.2.2 with
 | true=>rw[Ag,if_pos (.inl rfl)]
 | false =>
  rw[Ac];by_cases hp:u.2.2.2=30
  ·rw[Q8,decide_eq_true hp,Ag,if_pos (.inr hp)]
  rw[Dp hp,Ac,if_neg (by simp [hp]),show N4 u.2.2=some (Ew u.2.2.1 u.2.2.2) from rfl,Ab,Zjj hr,Ab,w.1,Ab,f.1,Ab]
  change cnd (J6 u r).2.2.2 (some ((J6 u r,u.2),false)) _=_
  cases hq:(J6 u r).2.2.2 with
  | true=>rw[Ag,if_pos rfl]
  | false=>rw[Ac];rfl
theorem Ynt {u:Cx}{t:Tab}{r:Rec}(h:dOk u.1=true) (hr:smC 1048576 r) :
  (cnd u.1.2.2.2 (some (false,u)) (cnd (iEq u.2.2.2 30) (some (false,u)) (bnd (Sr u.2.2) fun z3=>bnd (Sk (u.2.2.1,(u.2.2.2,r))) fun z4=>bnd (K3 (u.1,(z3,z4))) fun z5=>bnd (Jg (u.1.1,z5)) fun z6=>cnd z6.2.2.2 (some (false,(z6,u.2))) (some (true,(z6,(t,(u.2.2.1,Ai .i64 u.2.2.2 1))))))))=some ((Pp u t r).2,(Pp u t r).1):=by
 have w:=wr2 (n:=Ew u.2.2.1 u.2.2.2) (b:=Ek u.2.2.1 u.2.2.2 r) h (Zel _ _ _);have k:=Sa (n:=Ew u.2.2.1 u.2.2.2) (b:=Ek u.2.2.1 u.2.2.2 r) h;have f:=fl2 k;unfold Pp;cases hd:u.1.2.2.2 with
 | true=>rw[Ag,if_pos (.inl rfl)]
 | false =>
  rw[Ac];by_cases hp:u.2.2.2=30
  ·rw[Q8,decide_eq_true hp,Ag,if_pos (.inr hp)]
  rw[Dp hp,Ac,if_neg (by simp [hp]),show Sr u.2.2=some (Ew u.2.2.1 u.2.2.2) from rfl,Ab,Zwg hr,Ab,w.2,Ab,f.2,Ab]
  change cnd (J6 u r).2.2.2 (some (false,(J6 u r,u.2))) _=_
  cases hq:(J6 u r).2.2.2 with
  | true=>rw[Ag,if_pos rfl]
  | false=>rw[Ac];rfl
theorem Yky {s:Cx}{r:Rec}(h:smS 1048576 s) (hr:smC 1048576 r):Vf (s,r)=some (Jh s r):=by
 rw[Vf];simp only;have ec:Sd s=some s:=by rw[Sd,Zdo (Rx h.1),Ab,Zjn h.2,Ab]
 rw[ec,Ab,Ykz h.2 hr,Ab,Zs1 h,Ab];unfold Jh;cases ho:H1 s with
 | false=>rw[B6,Ag,if_neg (by simp)]
 | true =>
  obtain⟨hd,g1,g2⟩:=Uy ho;rw[A5,Ac];rcases Bool.eq_false_or_eq_true s.1.2.2.2 with hdn|hdn
  ·rw[Yay hdn,if_neg (by simp [hdn])]
  ·rw[Yax hdn];rcases Bool.eq_false_or_eq_true (Jj s.2.1 r).2 with ha|ha
   case inr=>rw[ha,B6,Ag,if_neg (by simp)]
   ·rw[show Ah (Jj s.2.1 r).2=false by rw[ha];rfl,Ac,if_pos ⟨rfl,hdn,ha⟩];have hf:(cnd (iEq s.2.2.2 30) (bnd (Vj s) (fun z4=>(some (.inl (z4.1.1,(z4.1.2.1,(z4.1.2.2.1,(z4.1.2.2.2,(z4.2.1.1,(z4.2.1.2.1,(z4.2.1.2.2,z4.2.2))))))))))) (some (.inl (s.1.1,(s.1.2.1,(s.1.2.2.1,(s.1.2.2.2,(s.2.1.1,(s.2.1.2.1,(s.2.1.2.2,s.2.2))))))))):Option (_ ⊕ (Cx×Bool)))=some (.inl ((Ei s).1.1,((Ei s).1.2.1,((Ei s).1.2.2.1,((Ei s).1.2.2.2,((Ei s).2.1.1,((Ei s).2.1.2.1,((Ei s).2.1.2.2,(Ei s).2.2)))))))):=by
     unfold Ei;by_cases hp:s.2.2.2=30
     ·rw[Q8,decide_eq_true hp,Ag,Yk9 h,Ab,if_pos hp]
     ·rw[Dp hp,Ac,if_neg hp]
    exact Zta hf (Yns (Zi1 hd) hr)
theorem Yo9 {s:Cx}{r:Rec}(h:smS 1048576 s) (hr:smC 1048576 r) (ho:H1 s=true) (hdn:s.1.2.2.2=false):Wb (s,r)=some ((Jh s r).2,(Jh s r).1):=by
 obtain⟨hd,g1,g2⟩:=Uy ho;have hR:=Zvf h.2;rw[Wb];simp only[Sy];rw[Yoj h.2 hr,Ab];unfold Jh;cases ha:(Jj s.2.1 r).2 with
 | false=>rw[B6,Ag,if_neg (by simp)]
 | true =>
  rw[A5,Ac,if_pos ⟨ho,hdn,rfl⟩];have hf:(cnd (iEq s.2.2.2 30) (cnd (iLt s.2.2.1 60000) (bnd (Ss (s,(Ai .i64 s.2.2.1 1))) (fun z2=>(some (.inl z2)))) (some (.inl (s.1.1,(s.1.2.1,(s.1.2.2.1,(s.1.2.2.2,(s.2.1.2.1,s.2.2)))))))) (some (.inl (s.1.1,(s.1.2.1,(s.1.2.2.1,(s.1.2.2.2,(s.2.1.2.1,s.2.2))))))):Option (_ ⊕ (Bool×Cx)))=some (.inl ((Ei s).1.1,((Ei s).1.2.1,((Ei s).1.2.2.1,((Ei s).1.2.2.2,((Ei s).2.1.2.1,(Ei s).2.2))))))/\(Ei s).2.1=s.2.1:=by
   unfold Ei;by_cases hp:s.2.2.2=30
   ·rw[Q8,decide_eq_true hp,Ag,if_pos hp];unfold Pc;by_cases hg:s.2.2.1=60000
    ·rw[A0 (by omega),Ac,if_neg (c:=H1 s=true/\s.1.2.2.2=false/\s.2.2.1≠60000) (by simp [hg])];exact⟨rfl,rfl⟩
    ·rw[A4 (by omega),Ag,C8 (by omega) (by omega)];have e:=Ypa (D:=s.1) (T:=s.2.1) (gp:=s.2.2) (g:=s.2.2.1+1) hd (Yoh h.2) hR.1 hR.2;rw[show Ss (s,s.2.2.1+1)=_ from e,Ab,if_pos (c:=H1 s=true/\s.1.2.2.2=false/\s.2.2.1≠60000) ⟨ho,hdn,hg⟩];exact⟨rfl,rfl⟩
   ·rw[Dp hp,Ac,if_neg hp];exact⟨rfl,rfl⟩
  obtain⟨hf,ht⟩:=hf;refine Zta hf ?_;rw[<-ht];exact Ynt (Zi1 hd) hr
theorem Yoi {s:Cx}{r:Rec}(h:smS 1048576 s) (hr:smC 1048576 r):Zau (s,r)=some (Jh s r):=by
 rw[Zau];simp only;rw[Zf8,Yol (Rx h.1),Ab,Zwk h.2,Ab,Ab,Yox h,Ab];cases ho:H1 s with
 | false=>rw[B6,Ag];unfold Jh;rw[if_neg (by simp [ho])]
 | true =>
  rw[A5,Ac];cases hdn:s.1.2.2.2 with
  | true=>rw[Ag];unfold Jh;rw[if_neg (by simp [hdn])]
  | false=>rw[Ac];rw[show Wb (s,r)=_ from Yo9 h hr ho hdn,Ab]
end
end Go.Vs
