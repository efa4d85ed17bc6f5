import Derived.Test.YtmfmjngkbddenaaGreatDoorVsW5
import Derived.Test.YtmfmjngkbddenaaGreatDoorVsQtk
set_option linter.all false
namespace Go.Vs
noncomputable section
abbrev RY:=List Row×Int×List Bu×Tab
abbrev RZ:=List Row×Int×List Bu×List Row×Int×List Bu×Int
def Zzi (FA:Int×Int->Option Int) (FR:Dv×Int->Option (List UInt8)) (FG:List UInt8->Option (Int×Int×Rec×Bool)) (FP:Tab×Rec->Option (Tab×Bool)) (x:Dv×Int) (z:RZ):Option (RZ ⊕ (RY ⊕ (Tab×Int))) :=
 bnd (FA (x.2,z.2.2.2.2.2.2)) fun z3=>bnd (FR (x.1,z3)) fun z4=>bnd (FG z4) fun z5=>cnd (Ag z5.2.2.2) (some (.inr (.inr ((z.2.2.2.1,(z.2.2.2.2.1,z.2.2.2.2.2.1)),z.2.2.2.2.2.2)))) (cnd (iNe z5.1 x.2) (some (.inr (.inr ((z.2.2.2.1,(z.2.2.2.2.1,z.2.2.2.2.2.1)),z.2.2.2.2.2.2)))) (cnd (iNe z5.2.1 z.2.2.2.2.2.2) (some (.inr (.inr ((z.2.2.2.1,(z.2.2.2.2.1,z.2.2.2.2.2.1)),z.2.2.2.2.2.2)))) (bnd (FP ((z.2.2.2.1,(z.2.2.2.2.1,z.2.2.2.2.2.1)),z5.2.2.1)) fun z6=>cnd (Ag z6.2) (some (.inr (.inr ((z.2.2.2.1,(z.2.2.2.2.1,z.2.2.2.2.2.1)),z.2.2.2.2.2.2)))) (some (.inl (z.1,(z.2.1,(z.2.2.1,(z6.1.1,(z6.1.2.1,(z6.1.2.2,(Aj .i64 z.2.2.2.2.2.2 1))))))))))))
def Mf (d:Dv) (g:Int) (i:Nat) (t:Tab):Option Tab:=match Gx (rdD d (Dt g i)) with
 | none=>none
 | some x=>if x.1=g/\x.2.1=(i:Int)/\(Da t x.2.2).2=true then some (Da t x.2.2).1 else none
def Hq (d:Dv) (g:Int):Nat->Nat->Tab->Tab×Int
 | 0,i,t=>(t,(i:Int))
 | k+1,i,t=>match Mf d g i t with
  | none=>(t,(i:Int))
  | some t'=>Hq d g k (i+1) t'
def Ig:Tab:=([],(0,[]))
def I4 (d:Dv) (g:Int):Tab×Int:=if 1<=g/\g<=60000 then Hq d g 30 0 Ig else (Ig,0)
theorem Zy7 {d:Dv}(h:SmD d) (n:Int):(rdD d n).length<=1048576:=Ysi h.2.1 h.2.2.2
theorem Ysr {FA:Int×Int->Option Int}{FR:Dv×Int->Option (List UInt8)}{FG:List UInt8->Option (Int×Int×Rec×Bool)}{FP:Tab×Rec->Option (Tab×Bool)}{d:Dv}{g:Int}(hd:SmD d) (hA:∀i,FA (g,i)=some (Dt g i)) (hR:∀n,FR (d,n)=some (rdD d n)) (hG:∀l:List UInt8,l.length<=1048576000->FG l=some (Wp (Gx l))) (hP:∀(t:Tab) (r:Rec),smT 1048576 t->smC 1048576 r->FP (t,r)=some (Da t r)){y:RY}{n:Nat}(hn:n<30) (ht:Ca y.2.2.2=true) :
  Zzi FA FR FG FP (d,g) (y.1,(y.2.1,(y.2.2.1,(y.2.2.2.1,(y.2.2.2.2.1,(y.2.2.2.2.2,(n:Int)))))))=match Mf d g n y.2.2.2 with
   | none=>some (.inr (.inr (y.2.2.2,(n:Int))))
   | some t'=>some (.inl (y.1,(y.2.1,(y.2.2.1,(t'.1,(t'.2.1,(t'.2.2,((n+1:Nat):Int)))))))):=by
 have hs:=Yju (rdD d (Dt g n));unfold Zzi Mf;simp only;rw[hA,Aa,hR,Aa,hG _ (by have:=Zy7 hd (Dt g n);omega),Aa];cases hg:Gx (rdD d (Dt g n)) with
 | none=>rfl
 | some x =>
  rw[hg]at hs;obtain⟨g',p,r⟩:=x;simp only[Wp,Au,Ac]at hs ⊢;by_cases h1:g'=g
  ·rw[h1,Om,Ac];by_cases h2:p=(n:Int)
   ·rw[h2,Om,Ac,show ((y.2.2.2.1,(y.2.2.2.2.1,y.2.2.2.2.2)),r)=(y.2.2.2,r) from rfl,hP _ _ ((Zbn ht).mono (by decide)) ⟨hs.1.mono (by decide),by have:=hs.2;omega⟩,Aa];cases h3:(Da y.2.2.2 r).2 with
    | false=>rw[A3,Ad];simp
    | true=>rw[Au,Ac,Cz (by omega)];simp
   ·rw[Iw h2,Ad];simp [h2]
  ·rw[Iw h1,Ad];simp [h1]
theorem Zzk {d:Dv}{g:Int}{i:Nat}{t t':Tab}(ht:Ca t=true) (h:Mf d g i t=some t'):Ca t'=true:=by
 unfold Mf at h;split at h
 ·cases h
 ·split at h
  ·simp only[Ka]at h;rw[<-h];exact Yeb ht
  ·cases h
theorem Zzj {d:Dv}{g:Int}:∀(k i:Nat) (t:Tab),Ca t=true->Ca (Hq d g k i t).1=true/\0<=(Hq d g k i t).2/\(Hq d g k i t).2<=(i+k:Nat)
 | 0,i,t,h=>⟨h,by simp only[Hq];omega,by simp only[Hq];omega⟩
 | k+1,i,t,h=>by
  unfold Hq;split
  ·exact⟨h,by simp only;omega,by simp only;omega⟩
  ·rename_i t' h';obtain⟨a,b,c⟩:=Zzj (d:=d) (g:=g) k (i+1) t' (Zzk h h');exact⟨a,b,by omega⟩
theorem T4:Ca Ig=true:=by decide
theorem Yst (d:Dv) (g:Int):Ca (I4 d g).1=true/\0<=(I4 d g).2/\(I4 d g).2<=30:=by
 unfold I4;split
 ·exact Zzj 30 0 Ig T4
 ·exact⟨T4,by simp only;omega,by simp only;omega⟩
theorem Yss {d:Dv}{g:Int}{step:RZ->Option (RZ ⊕ (RY ⊕ (Tab×Int)))}(hB:∀(y:RY) (n:Nat),n<30->Ca y.2.2.2=true->step (y.1,(y.2.1,(y.2.2.1,(y.2.2.2.1,(y.2.2.2.2.1,(y.2.2.2.2.2,(n:Int)))))))=match Mf d g n y.2.2.2 with
   | none=>some (.inr (.inr (y.2.2.2,(n:Int))))
   | some t'=>some (.inl (y.1,(y.2.1,(y.2.2.1,(t'.1,(t'.2.1,(t'.2.2,((n+1:Nat):Int)))))))))
  (hE:∀y:RY,step (y.1,(y.2.1,(y.2.2.1,(y.2.2.2.1,(y.2.2.2.2.1,(y.2.2.2.2.2,30))))))=some (.inr (.inl y))) :
  ∃r,Aw step ([],(0,([],([],(0,([],0))))))=some r/\((∃y:RY,r=.inl y/\Hq d g 30 0 Ig=(y.2.2.2,30))\/r=.inr (Hq d g 30 0 Ig)):=by
 generalize hR:Hq d g 30 0 Ig=R;refine M5 (fun n z=>∃y:RY,z=(y.1,(y.2.1,(y.2.2.1,(y.2.2.2.1,(y.2.2.2.2.1,(y.2.2.2.2.2,(n:Int)))))))/\Ca y.2.2.2=true/\Hq d g (30-n) n y.2.2.2=R) 30 _ ?_ ?_ _ ⟨([],0,[],[],0,[]),rfl,T4,hR⟩
 ·rintro n z hn ⟨y,rfl,ht,hy⟩;rw[hB y n hn ht];rw[show 30-n=(30-(n+1))+1 by omega]at hy;unfold Hq at hy;cases hN:Mf d g n y.2.2.2 with
  | none=>rw[hN]at hy;exact .inr ⟨_,rfl,.inr (by rw[<-hy])⟩
  | some t'=>rw[hN]at hy;exact .inl ⟨_,rfl,(y.1,y.2.1,y.2.2.1,t'),rfl,Zzk ht hN,hy⟩
 ·rintro z ⟨y,rfl,ht,hy⟩;exact⟨_,hE y,.inl ⟨y,rfl,by rw[<-hy];rfl⟩⟩
theorem Zwm {d:Dv}{g:Int}(hd:SmD d):Ui (d,g)=some (I4 d g):=by
 rw[Ui];simp only;rw[Gz,Aa];unfold I4;by_cases h:1<=g/\g<=60000
 case neg=>rw[decide_eq_false h,A3,Ad,if_neg h];rfl
 rw[decide_eq_true h,Au,Ac,if_pos h];obtain⟨r,e,hr⟩:=Yss (d:=d) (g:=g) (step:=Zdl (d,g)) (fun y n hn ht=>by
  rw[Zdl];simp only[U0];rw[A5 (by omega),Ad];exact Ysr (FA:=Mm) hd (fun i=>rfl) (fun n=>Zwl hd) (fun l hl=>Yoy hl) (fun t r=>Zmj) hn ht) (fun y=>by
  rw[Zdl];simp only;rw[A6 (by omega),Ac])
 rw[e];rcases hr with ⟨y,rfl,hy⟩|rfl
 ·rw[Ar,hy]
 ·rfl
def Lb (u:Bv) (r:Rec):Dv :=
 let d:Dv:=(u.1.1,wrC u.1.1 u.1.2.1 u.1.2.2.1 u.1.2.2.2 (Dt u.2.2.1 u.2.2.2) (C7 u.2.2.1 u.2.2.2 r))
 flC d.1 d.2.1 d.2.2.1 d.2.2.2
def Me (u:Bv) (t:Tab) (r:Rec):Bv×Bool:=if u.1.2.2.2=true\/u.2.2.2=30 then (u,false) else if (Lb u r).2.2.2=true then ((Lb u r,u.2),false) else ((Lb u r,(t,(u.2.2.1,Aj .i64 u.2.2.2 1))),true)
def Eg (s:Bv):Bv:=if s.2.2.2=30 then H6 s else s
def J5 (s:Bv) (r:Rec):Bv×Bool:=if Ie s=true/\s.1.2.2.2=false/\(Da s.2.1 r).2=true then Me (Eg s) (Da s.2.1 r).1 r else (s,false)
theorem Zm7 {σ ρ:Type}{o:Option (σ ⊕ ρ)}{f:σ->Option ρ}{a:σ}{r:Option ρ}(h:o=some (.inl a)) (h2:f a=r):Ao o f=r:=by rw[h,Ar,h2]
theorem Yfb {α:Type}{b:Bool}{x y:Option α}(h:b=false):cnd b x y=y:=by rw[h];rfl
theorem Yfc {α:Type}{b:Bool}{x y:Option α}(h:b=true):cnd b x y=x:=by rw[h];rfl
theorem Yqk {s:Bv}(h:dOk s.1=true):dOk (H6 s).1=true:=by
 unfold H6;split
 ·exact Zf9 h
 ·exact h
theorem Zvf {s:Bv}(h:dOk s.1=true):dOk (Eg s).1=true:=by
 unfold Eg;split
 ·exact Yqk h
 ·exact h
theorem Yr7 {u:Bv}{r:Rec}(h:dOk u.1=true):dOk (Lb u r)=true:=Zo (Ud h)
theorem Ysb {u:Bv}{t:Tab}{r:Rec}(h:dOk u.1=true) (hr:smC 1048576 r) :
  (cnd u.1.2.2.2 (some (u,false)) (cnd (iEq u.2.2.2 30) (some (u,false)) (bnd (Mm u.2.2) fun z5=>bnd (Rr (u.2.2.1,(u.2.2.2,r))) fun z6=>bnd (Jh (u.1,(z5,z6))) fun z7=>bnd (Lm z7) fun z8=>cnd z8.2.2.2 (some ((z8,u.2),false)) (some ((z8,(t,(u.2.2.1,Aj .i64 u.2.2.2 1))),true)))))=some (Me u t r):=by
 have w:=wr2 (n:=Dt u.2.2.1 u.2.2.2) (b:=C7 u.2.2.1 u.2.2.2 r) h (Zg4 _ _ _);have k:=Ud (n:=Dt u.2.2.1 u.2.2.2) (b:=C7 u.2.2.1 u.2.2.2 r) h;have f:=fl2 k;unfold Me;cases hd:u.1.2.2.2 with
 | true=>rw[Ad,if_pos (.inl rfl)]
 | false =>
  rw[Ac];by_cases hp:u.2.2.2=30
  ·rw[E9,decide_eq_true hp,Ad,if_pos (.inr hp)]
  rw[Dk hp,Ac,if_neg (by simp [hp]),show Mm u.2.2=some (Dt u.2.2.1 u.2.2.2) from rfl,Aa,Zmm hr,Aa,w.1,Aa,f.1,Aa]
  change cnd (Lb u r).2.2.2 (some ((Lb u r,u.2),false)) _=_
  cases hq:(Lb u r).2.2.2 with
  | true=>rw[Ad,if_pos rfl]
  | false=>rw[Ac];rfl
theorem Ysc {u:Bv}{t:Tab}{r:Rec}(h:dOk u.1=true) (hr:smC 1048576 r) :
  (cnd u.1.2.2.2 (some (false,u)) (cnd (iEq u.2.2.2 30) (some (false,u)) (bnd (Uw u.2.2) fun z3=>bnd (Up (u.2.2.1,(u.2.2.2,r))) fun z4=>bnd (Mn (u.1,(z3,z4))) fun z5=>bnd (Lq (u.1.1,z5)) fun z6=>cnd z6.2.2.2 (some (false,(z6,u.2))) (some (true,(z6,(t,(u.2.2.1,Aj .i64 u.2.2.2 1))))))))=some ((Me u t r).2,(Me u t r).1):=by
 have w:=wr2 (n:=Dt u.2.2.1 u.2.2.2) (b:=C7 u.2.2.1 u.2.2.2 r) h (Zg4 _ _ _);have k:=Ud (n:=Dt u.2.2.1 u.2.2.2) (b:=C7 u.2.2.1 u.2.2.2 r) h;have f:=fl2 k;unfold Me;cases hd:u.1.2.2.2 with
 | true=>rw[Ad,if_pos (.inl rfl)]
 | false =>
  rw[Ac];by_cases hp:u.2.2.2=30
  ·rw[E9,decide_eq_true hp,Ad,if_pos (.inr hp)]
  rw[Dk hp,Ac,if_neg (by simp [hp]),show Uw u.2.2=some (Dt u.2.2.1 u.2.2.2) from rfl,Aa,Yan hr,Aa,w.2,Aa,f.2,Aa]
  change cnd (Lb u r).2.2.2 (some (false,(Lb u r,u.2))) _=_
  cases hq:(Lb u r).2.2.2 with
  | true=>rw[Ad,if_pos rfl]
  | false=>rw[Ac];rfl
theorem Yoq {s:Bv}{r:Rec}(h:smS 1048576 s) (hr:smC 1048576 r):Zcf (s,r)=some (J5 s r):=by
 rw[Zcf];simp only;have ec:Uk s=some s:=by rw[Uk,Vz (T1 h.1),Aa,Zmq h.2,Aa]
 rw[ec,Aa,Zmj h.2 hr,Aa,V0 h,Aa];unfold J5;cases ho:Ie s with
 | false=>rw[A3,Ad,if_neg (by simp)]
 | true =>
  obtain⟨hd,g1,g2⟩:=Zh6 ho;rw[Au,Ac];rcases Bool.eq_false_or_eq_true s.1.2.2.2 with hdn|hdn
  ·rw[Yfc hdn,if_neg (by simp [hdn])]
  ·rw[Yfb hdn];rcases Bool.eq_false_or_eq_true (Da s.2.1 r).2 with ha|ha
   case inr=>rw[ha,A3,Ad,if_neg (by simp)]
   ·rw[show Ag (Da s.2.1 r).2=false by rw[ha];rfl,Ac,if_pos ⟨rfl,hdn,ha⟩];have hf:(cnd (iEq s.2.2.2 30) (bnd (Px s) (fun z4=>(some (.inl (z4.1.1,(z4.1.2.1,(z4.1.2.2.1,(z4.1.2.2.2,(z4.2.1.1,(z4.2.1.2.1,(z4.2.1.2.2,z4.2.2))))))))))) (some (.inl (s.1.1,(s.1.2.1,(s.1.2.2.1,(s.1.2.2.2,(s.2.1.1,(s.2.1.2.1,(s.2.1.2.2,s.2.2))))))))):Option (_ ⊕ (Bv×Bool)))=some (.inl ((Eg s).1.1,((Eg s).1.2.1,((Eg s).1.2.2.1,((Eg s).1.2.2.2,((Eg s).2.1.1,((Eg s).2.1.2.1,((Eg s).2.1.2.2,(Eg s).2.2)))))))):=by
     unfold Eg;by_cases hp:s.2.2.2=30
     ·rw[E9,decide_eq_true hp,Ad,Zml h,Aa,if_pos hp]
     ·rw[Dk hp,Ac,if_neg hp]
    exact Zm7 hf (Ysb (Zvf hd) hr)
theorem Yt8 {s:Bv}{r:Rec}(h:smS 1048576 s) (hr:smC 1048576 r) (ho:Ie s=true) (hdn:s.1.2.2.2=false):Yi (s,r)=some ((J5 s r).2,(J5 s r).1):=by
 obtain⟨hd,g1,g2⟩:=Zh6 ho;have hR:=Zo0 h.2;rw[Yi];simp only[U0];rw[Ytc h.2 hr,Aa];unfold J5;cases ha:(Da s.2.1 r).2 with
 | false=>rw[A3,Ad,if_neg (by simp)]
 | true =>
  rw[Au,Ac,if_pos ⟨ho,hdn,rfl⟩];have hf:(cnd (iEq s.2.2.2 30) (cnd (iLt s.2.2.1 60000) (bnd (P0 (s,(Aj .i64 s.2.2.1 1))) (fun z2=>(some (.inl z2)))) (some (.inl (s.1.1,(s.1.2.1,(s.1.2.2.1,(s.1.2.2.2,(s.2.1.2.1,s.2.2)))))))) (some (.inl (s.1.1,(s.1.2.1,(s.1.2.2.1,(s.1.2.2.2,(s.2.1.2.1,s.2.2))))))):Option (_ ⊕ (Bool×Bv)))=some (.inl ((Eg s).1.1,((Eg s).1.2.1,((Eg s).1.2.2.1,((Eg s).1.2.2.2,((Eg s).2.1.2.1,(Eg s).2.2))))))/\(Eg s).2.1=s.2.1:=by
   unfold Eg;by_cases hp:s.2.2.2=30
   ·rw[E9,decide_eq_true hp,Ad,if_pos hp];unfold H6;by_cases hg:s.2.2.1=60000
    ·rw[A6 (by omega),Ac,if_neg (c:=Ie s=true/\s.1.2.2.2=false/\s.2.2.1≠60000) (by simp [hg])];exact⟨rfl,rfl⟩
    ·rw[A5 (by omega),Ad,C0 (by omega) (by omega)];have e:=Yar (D:=s.1) (T:=s.2.1) (gp:=s.2.2) (g:=s.2.2.1+1) hd (Yak h.2) hR.1 hR.2;rw[show P0 (s,s.2.2.1+1)=_ from e,Aa,if_pos (c:=Ie s=true/\s.1.2.2.2=false/\s.2.2.1≠60000) ⟨ho,hdn,hg⟩];exact⟨rfl,rfl⟩
   ·rw[Dk hp,Ac,if_neg hp];exact⟨rfl,rfl⟩
  obtain⟨hf,ht⟩:=hf;refine Zm7 hf ?_;rw[<-ht];exact Ysc (Zvf hd) hr
def T2:Bv:=(([],([],(0,false))),(Ig,(0,0)))
def H8 (d:Dv) (i:Int) (s:Bv):Bv:=if (En (rdD d i)).2.2=true/\Dy (En (rdD d i)).1 2=i/\s.2.2.1<(En (rdD d i)).1/\(En (rdD d i)).2.1<=(I4 d (En (rdD d i)).1).2 then (d,((I4 d (En (rdD d i)).1).1,((En (rdD d i)).1,(I4 d (En (rdD d i)).1).2))) else s
def oAt (d:Dv):Nat->Bv
 | 0=>T2
 | i+1=>H8 d i (oAt d i)
def Zal (d:Dv):Bv×Bool:=if Ie (oAt d 2)=true then (H6 (oAt d 2),true) else (T2,false)
abbrev O9:=List (List UInt8)×List Wr×Int×Bool×List Row×Int×List Bu×Int×Int
abbrev OZ:=List (List UInt8)×List Wr×Int×Bool×List Row×Int×List Bu×Int×Int×Int
def o9 (s:Bv):O9:=(s.1.1,(s.1.2.1,(s.1.2.2.1,(s.1.2.2.2,(s.2.1.1,(s.2.1.2.1,(s.2.1.2.2,(s.2.2.1,s.2.2.2))))))))
def oZ (s:Bv) (i:Int):OZ:=(s.1.1,(s.1.2.1,(s.1.2.2.1,(s.1.2.2.2,(s.2.1.1,(s.2.1.2.1,(s.2.1.2.2,(s.2.2.1,(s.2.2.2,i)))))))))
theorem Yrp {ρ:Type}{FR:Dv×Int->Option (List UInt8)}{FH:List UInt8->Option (Int×Int×Bool)}{FP:Dv×Int->Option (Tab×Int)}{FC:Dv->Option Dv}{d:Dv}{i:Int}{s:Bv}(hd:SmD d) (hR:FR (d,i)=some (rdD d i)) (hH:∀l:List UInt8,l.length<=1048576->FH l=some (En l)) (hP:∀g,FP (d,g)=some (I4 d g)) (hC:FC d=some d) :
  (bnd (FR (d,i)) fun z2=>bnd (FH z2) fun z3=>cnd (Ag z3.2.2) (some (.inl (o9 s))) (cnd (iNe (Dy z3.1 2) i) (some (.inl (o9 s))) (cnd (iLe z3.1 s.2.2.1) (some (.inl (o9 s))) (bnd (FP (d,z3.1)) fun z4=>cnd (iGe z4.2 z3.2.1) (bnd (FC d) fun z5=>some (.inl (z5.1,(z5.2.1,(z5.2.2.1,(z5.2.2.2,(z4.1.1,(z4.1.2.1,(z4.1.2.2,(z3.1,z4.2)))))))))) (some (.inl (o9 s)))))))=(some (.inl (o9 (H8 d i s))):Option (O9 ⊕ ρ)):=by
 rw[hR,Aa,hH _ (Zy7 hd i),Aa];unfold H8;generalize En (rdD d i)=h;obtain⟨g,n,ok⟩:=h;simp only;cases ok with
 | false=>rw[A3,Ad,if_neg (by simp)]
 | true =>
  rw[Au,Ac];by_cases h1:Dy g 2=i
  case neg=>rw[Iw h1,Ad,if_neg (by simp [h1])]
  rw[h1,Om,Ac];by_cases h2:g<=s.2.2.1
  ·rw[Gy h2,Ad,if_neg (by intro h;omega)]
  rw[K4 (by omega),Ac,hP,Aa];by_cases h3:n<=(I4 d g).2
  ·rw[Qu h3,Ad,hC,Aa,if_pos ⟨rfl,rfl,by omega,h3⟩];rfl
  ·rw[Ol (by omega),Ac,if_neg (by intro h;omega)]
theorem Yrk {d:Dv}(h:smD 1048576 d):∀n,smS 1048576 (oAt d n):=by
 intro n
 induction n with
 | zero=>exact⟨⟨Kca _,fun s hs=>(by cases hs),Kca _,fun s hs=>(by cases hs)⟩,(Zbn T4).mono (by decide)⟩
 | succ n ih =>
  show smS 1048576 (H8 d n (oAt d n));unfold H8;split
  ·exact⟨h,(Zbn (Yst d _).1).mono (by decide)⟩
  ·exact ih
theorem Zwk {d:Dv}(h:smD 1048576 d):Xu d=some (Zal d):=by
 have hd:=T1 h;have hs:=Yrk h;rw[Xu];rw[show Aw (Zdj d) ([],([],(0,(false,([],(0,([],(0,(0,0)))))))))=some (.inl (o9 (oAt d 2))) from I0 (fun n=>oZ (oAt d n) (n:Int)) 2 _ (fun n hn=>by
  rw[Zdj];have e:=Yrp (ρ:=OZ ⊕ (O9 ⊕ (Bv×Bool))) (FR:=Uh) (FH:=Xp) (FP:=Ui) (FC:=J0) (i:=(n:Int)) (s:=oAt d n) hd (Zwl hd) (fun l=>Yox) (fun g=>Zwm hd) (Vz hd);simp only[oZ];rw[A5 (by omega),Ad];refine Zm7 e ?_;rw[Cz (by omega)];rfl) (by
  rw[Zdj];simp only[oZ];rw[A6 (by omega),Ac];rfl) _ rfl,Ar]
 have ho:=V0 (hs 2);have hl:=Zml (hs 2);simp only[o9];rw[show Jg (((oAt d 2).1.1,((oAt d 2).1.2.1,((oAt d 2).1.2.2.1,(oAt d 2).1.2.2.2))),(((oAt d 2).2.1.1,((oAt d 2).2.1.2.1,(oAt d 2).2.1.2.2)),((oAt d 2).2.2.1,(oAt d 2).2.2.2)))=_ from ho,Aa,show Px (((oAt d 2).1.1,((oAt d 2).1.2.1,((oAt d 2).1.2.2.1,(oAt d 2).1.2.2.2))),(((oAt d 2).2.1.1,((oAt d 2).2.1.2.1,(oAt d 2).2.1.2.2)),((oAt d 2).2.2.1,(oAt d 2).2.2.2)))=_ from hl,Aa];unfold Zal;cases hk:Ie (oAt d 2) with
 | false=>rw[A3,Ad,if_neg (by simp)];cases iEq (oAt d 2).2.2.1 0<;>rfl
 | true=>rw[Dk (by have:=Zh6 hk;omega),Ac,Au,Ac,if_pos rfl]
end
end Go.Vs
