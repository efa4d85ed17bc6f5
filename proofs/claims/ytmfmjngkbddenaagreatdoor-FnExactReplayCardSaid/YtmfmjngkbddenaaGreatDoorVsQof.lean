import Derived.Test.YtmfmjngkbddenaaGreatDoorVsW5
import Derived.Test.YtmfmjngkbddenaaGreatDoorVsQod
set_option linter.all false
namespace Go.Vs
noncomputable section
theorem Yja {r:Row}(h:C3 r=true):smR 100 r:=by
 obtain⟨k,o,n,has,aside⟩:=r;obtain⟨g1,l1,l2,g4,g5,g6⟩:=Zdo h;simp only at g1 l1 l2 g4 g5 g6;refine⟨by have:=(Xf g1).2;simp only;omega, ?_, ?_⟩
 ·by_cases e:has=2
  ·subst e;have:Hh o 2 aside=Eh o:=by unfold Hh;rw[if_pos rfl]
   rw[this]at g4;rw[Qr g4];simp
  ·have:=(Zjx g4 e).2.2.1;simp only;omega
 ·by_cases e:has=1
  ·subst e;have:Hg n 1=Eh n:=by unfold Hg;rw[if_pos rfl]
   rw[this]at g5;rw[Qr g5];simp
  ·have:=(Zjw g5 e).2.2;simp only;omega
theorem Zvc {t:Tab}(h:Dh t=true):smT 100 t:=by
 obtain⟨o1,o2,o3,o4,o5,o6⟩:=Zlg h;exact⟨by omega,fun r hr=>by obtain⟨i,hi,rfl⟩:=Kad hr;exact Yja (Zgh o1 hi),by omega⟩
theorem Zxu {t:Tab}{r:Rec}(h:Dh t=true):Dh (J5 t r).1=true:=by
 unfold J5;split
 ·rename_i h1;simp only[Ke]at h1;exact h1.2.2
 ·exact h
abbrev RY:=List Row×Int×List B7×Tab
abbrev RZ:=List Row×Int×List B7×List Row×Int×List B7×Int
def Zs0 (FA:Int×Int->Option Int) (FR:Dv×Int->Option (List UInt8)) (FG:List UInt8->Option (Int×Int×Rec×Bool)) (FP:Tab×Rec->Option (Tab×Bool)) (x:Dv×Int) (z:RZ):Option (RZ ⊕ (RY ⊕ (Tab×Int))) :=
 bnd (FA (x.2,z.2.2.2.2.2.2)) fun z3=>bnd (FR (x.1,z3)) fun z4=>bnd (FG z4) fun z5=>cnd (Ah z5.2.2.2) (some (.inr (.inr ((z.2.2.2.1,(z.2.2.2.2.1,z.2.2.2.2.2.1)),z.2.2.2.2.2.2)))) (cnd (iNe z5.1 x.2) (some (.inr (.inr ((z.2.2.2.1,(z.2.2.2.2.1,z.2.2.2.2.2.1)),z.2.2.2.2.2.2)))) (cnd (iNe z5.2.1 z.2.2.2.2.2.2) (some (.inr (.inr ((z.2.2.2.1,(z.2.2.2.2.1,z.2.2.2.2.2.1)),z.2.2.2.2.2.2)))) (bnd (FP ((z.2.2.2.1,(z.2.2.2.2.1,z.2.2.2.2.2.1)),z5.2.2.1)) fun z6=>cnd (Ah z6.2) (some (.inr (.inr ((z.2.2.2.1,(z.2.2.2.2.1,z.2.2.2.2.2.1)),z.2.2.2.2.2.2)))) (some (.inl (z.1,(z.2.1,(z.2.2.1,(z6.1.1,(z6.1.2.1,(z6.1.2.2,(Ai .i64 z.2.2.2.2.2.2 1))))))))))))
def Q6 (d:Dv) (g:Int) (i:Nat) (t:Tab):Option Tab:=match Fv (rdD d (Ua g i)) with
 | none=>none
 | some x=>if x.1=g/\x.2.1=(i:Int)/\(J5 t x.2.2).2=true then some (J5 t x.2.2).1 else none
def Hz (d:Dv) (g:Int):Nat->Nat->Tab->Tab×Int
 | 0,i,t=>(t,(i:Int))
 | k+1,i,t=>match Q6 d g i t with
  | none=>(t,(i:Int))
  | some t'=>Hz d g k (i+1) t'
def O7:Tab:=([],(0,[]))
def O0 (d:Dv) (g:Int):Tab×Int:=if 1<=g/\g<=60000 then Hz d g 30 0 O7 else (O7,0)
theorem Yjt {d:Dv}(h:SmD d) (n:Int):(rdD d n).length<=1048576:=Yjv h.2.1 h.2.2.2
theorem Zs3 {FA:Int×Int->Option Int}{FR:Dv×Int->Option (List UInt8)}{FG:List UInt8->Option (Int×Int×Rec×Bool)}{FP:Tab×Rec->Option (Tab×Bool)}{d:Dv}{g:Int}(hd:SmD d) (hA:∀i,FA (g,i)=some (Ua g i)) (hR:∀n,FR (d,n)=some (rdD d n)) (hG:∀l:List UInt8,l.length<=1048576000->FG l=some (Oz (Fv l))) (hP:∀(t:Tab) (r:Rec),smT 1048576 t->smC 1048576 r->FP (t,r)=some (J5 t r)){y:RY}{n:Nat}(hn:n<30) (ht:Dh y.2.2.2=true) :
  Zs0 FA FR FG FP (d,g) (y.1,(y.2.1,(y.2.2.1,(y.2.2.2.1,(y.2.2.2.2.1,(y.2.2.2.2.2,(n:Int)))))))=match Q6 d g n y.2.2.2 with
   | none=>some (.inr (.inr (y.2.2.2,(n:Int))))
   | some t'=>some (.inl (y.1,(y.2.1,(y.2.2.1,(t'.1,(t'.2.1,(t'.2.2,((n+1:Nat):Int)))))))):=by
 have hs:=Ycu (rdD d (Ua g n));unfold Zs0 Q6;simp only;rw[hA,Ab,hR,Ab,hG _ (by have:=Yjt hd (Ua g n);omega),Ab];cases hg:Fv (rdD d (Ua g n)) with
 | none=>rfl
 | some x =>
  rw[hg]at hs;obtain⟨g',p,r⟩:=x;simp only[Oz,Bd,Ae]at hs ⊢;by_cases h1:g'=g
  ·rw[h1,E6,Ae];by_cases h2:p=(n:Int)
   ·rw[h2,E6,Ae,show ((y.2.2.2.1,(y.2.2.2.2.1,y.2.2.2.2.2)),r)=(y.2.2.2,r) from rfl,hP _ _ ((Zvc ht).mono (by decide)) ⟨hs.1.mono (by decide),by have:=hs.2;omega⟩,Ab];cases h3:(J5 y.2.2.2 r).2 with
    | false=>rw[Cp,Ag];simp
    | true=>rw[Bd,Ae,Dg (by omega)];simp
   ·rw[Oa h2,Ag];simp [h2]
  ·rw[Oa h1,Ag];simp [h1]
theorem Zs2 {d:Dv}{g:Int}{i:Nat}{t t':Tab}(ht:Dh t=true) (h:Q6 d g i t=some t'):Dh t'=true:=by
 unfold Q6 at h;split at h
 ·cases h
 ·split at h
  ·simp only[Ka]at h;rw[<-h];exact Zxu ht
  ·cases h
theorem Zs1 {d:Dv}{g:Int}:∀(k i:Nat) (t:Tab),Dh t=true->Dh (Hz d g k i t).1=true/\0<=(Hz d g k i t).2/\(Hz d g k i t).2<=(i+k:Nat)
 | 0,i,t,h=>⟨h,by simp only[Hz];omega,by simp only[Hz];omega⟩
 | k+1,i,t,h=>by
  unfold Hz;split
  ·exact⟨h,by simp only;omega,by simp only;omega⟩
  ·rename_i t' h';obtain⟨a,b,c⟩:=Zs1 (d:=d) (g:=g) k (i+1) t' (Zs2 h h');exact⟨a,b,by omega⟩
theorem Zlf:Dh O7=true:=by decide
theorem Yjz (d:Dv) (g:Int):Dh (O0 d g).1=true/\0<=(O0 d g).2/\(O0 d g).2<=30:=by
 unfold O0;split
 ·exact Zs1 30 0 O7 Zlf
 ·exact⟨Zlf,by simp only;omega,by simp only;omega⟩
theorem Zs6 {d:Dv}{g:Int}{step:RZ->Option (RZ ⊕ (RY ⊕ (Tab×Int)))}(hB:∀(y:RY) (n:Nat),n<30->Dh y.2.2.2=true->step (y.1,(y.2.1,(y.2.2.1,(y.2.2.2.1,(y.2.2.2.2.1,(y.2.2.2.2.2,(n:Int)))))))=match Q6 d g n y.2.2.2 with
   | none=>some (.inr (.inr (y.2.2.2,(n:Int))))
   | some t'=>some (.inl (y.1,(y.2.1,(y.2.2.1,(t'.1,(t'.2.1,(t'.2.2,((n+1:Nat):Int)))))))))
  (hE:∀y:RY,step (y.1,(y.2.1,(y.2.2.1,(y.2.2.2.1,(y.2.2.2.2.1,(y.2.2.2.2.2,30))))))=some (.inr (.inl y))) :
  ∃r,Ar step ([],(0,([],([],(0,([],0))))))=some r/\((∃y:RY,r=.inl y/\Hz d g 30 0 O7=(y.2.2.2,30))\/r=.inr (Hz d g 30 0 O7)):=by
 generalize hR:Hz d g 30 0 O7=R;refine Jq (fun n z=>∃y:RY,z=(y.1,(y.2.1,(y.2.2.1,(y.2.2.2.1,(y.2.2.2.2.1,(y.2.2.2.2.2,(n:Int)))))))/\Dh y.2.2.2=true/\Hz d g (30-n) n y.2.2.2=R) 30 _ ?_ ?_ _ ⟨([],0,[],[],0,[]),rfl,Zlf,hR⟩
 ·rintro n z hn ⟨y,rfl,ht,hy⟩;rw[hB y n hn ht];rw[show 30-n=(30-(n+1))+1 by omega]at hy;unfold Hz at hy;cases hN:Q6 d g n y.2.2.2 with
  | none=>rw[hN]at hy;exact .inr ⟨_,rfl,.inr (by rw[<-hy])⟩
  | some t'=>rw[hN]at hy;exact .inl ⟨_,rfl,(y.1,y.2.1,y.2.2.1,t'),rfl,Zs2 ht hN,hy⟩
 ·rintro z ⟨y,rfl,ht,hy⟩;exact⟨_,hE y,.inl ⟨y,rfl,by rw[<-hy];rfl⟩⟩
theorem Yg9 {d:Dv}{g:Int}(hd:SmD d):U0 (d,g)=some (O0 d g):=by
 rw[U0];simp only;rw[K6,Ab];unfold O0;by_cases h:1<=g/\g<=60000
 case neg=>rw[decide_eq_false h,Cp,Ag,if_neg h];rfl
 rw[decide_eq_true h,Bd,Ae,if_pos h];obtain⟨r,e,hr⟩:=Zs6 (d:=d) (g:=g) (step:=Zaf (d,g)) (fun y n hn ht=>by
  rw[Zaf];simp only[Vx];rw[A6 (by omega),Ag];exact Zs3 (FA:=Zey) hd (fun i=>rfl) (fun n=>Yg8 hd) (fun l hl=>Yg2 hl) (fun t r=>Ygv) hn ht) (fun y=>by
  rw[Zaf];simp only;rw[A3 (by omega),Ae])
 rw[e];rcases hr with ⟨y,rfl,hy⟩|rfl
 ·rw[A2,hy]
 ·rfl
theorem Ykt {d:Dv}{g:Int}(hd:SmD d):Z4 (d,g)=some (O0 d g):=by
 rw[Z4];unfold O0;simp only;by_cases h:1<=g/\g<=60000
 case neg =>
  rw[show Ar (R5 (d,g)) ([],(0,([],([],(0,([],0))))))=some (.inl ([],0,[],O7)) from Jp (fun _=>([],(0,([],([],(0,([],0))))))) 0 _ (fun i hi=>by omega) (by
   rw[R5];simp only;rw[A6 (by omega),Ag,Ee,Ab,decide_eq_false h,Ae];rfl) _ rfl,A2,Ee,Ab,decide_eq_false h,Cp,Ag,if_neg h]
 obtain⟨r,e,hr⟩:=Zs6 (d:=d) (g:=g) (step:=R5 (d,g)) (fun y n hn ht=>by
  rw[R5];simp only[Vx];rw[A6 (by omega),Ag,Ee,Ab,decide_eq_true h,Ag];exact Zs3 (FA:=Ze3) hd (fun i=>rfl) (fun n=>Yks hd) (fun l hl=>Ykp hl) (fun t r=>Ykj) hn ht) (fun y=>by
  rw[R5];simp only;rw[A3 (by omega),Ae])
 rw[e,if_pos h];rcases hr with ⟨y,rfl,hy⟩|rfl
 ·rw[A2,Ee,Ab,decide_eq_true h,Bd,Ae,hy]
 ·rfl
end
end Go.Vs
