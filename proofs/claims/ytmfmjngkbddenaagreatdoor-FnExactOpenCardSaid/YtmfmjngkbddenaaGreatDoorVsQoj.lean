import Derived.Test.YtmfmjngkbddenaaGreatDoorVsW5
import Derived.Test.YtmfmjngkbddenaaGreatDoorVsQoe
set_option linter.all false
namespace Go.Vs
noncomputable section
theorem Yqx {r:Row}(h:Ci r=true):smR 100 r:=by
 obtain⟨k,o,n,has,aside⟩:=r;obtain⟨g1,l1,l2,g4,g5,g6⟩:=Mw h;simp only at g1 l1 l2 g4 g5 g6;refine⟨by have:=(Zw g1).2;simp only;omega, ?_, ?_⟩
 ·by_cases e:has=2
  ·subst e;have:Im o 2 aside=E1 o:=by unfold Im;rw[if_pos rfl]
   rw[this]at g4;rw[Sp g4];simp
  ·have:=(Zgo g4 e).2.2.1;simp only;omega
 ·by_cases e:has=1
  ·subst e;have:Il n 1=E1 n:=by unfold Il;rw[if_pos rfl]
   rw[this]at g5;rw[Sp g5];simp
  ·have:=(Zgn g5 e).2.2;simp only;omega
theorem Zpt {t:Tab}(h:Dc t=true):smT 100 t:=by
 obtain⟨o1,o2,o3,o4,o5,o6⟩:=Zps h;exact⟨by omega,fun r hr=>by obtain⟨i,hi,rfl⟩:=Kjd hr;exact Yqx (Zj6 o1 hi),by omega⟩
theorem Ydk {t:Tab}{r:Rec}(h:Dc t=true):Dc (L4 t r).1=true:=by
 unfold L4;split
 ·rename_i h1;simp only[Kd]at h1;exact h1.2.2
 ·exact h
abbrev RY:=List Row×Int×List Cc×Tab
abbrev RZ:=List Row×Int×List Cc×List Row×Int×List Cc×Int
def Zx9 (FA:Int×Int->Option Int) (FR:Dv×Int->Option (List UInt8)) (FG:List UInt8->Option (Int×Int×Rec×Bool)) (FP:Tab×Rec->Option (Tab×Bool)) (x:Dv×Int) (z:RZ):Option (RZ ⊕ (RY ⊕ (Tab×Int))) :=
 bnd (FA (x.2,z.2.2.2.2.2.2)) fun z3=>bnd (FR (x.1,z3)) fun z4=>bnd (FG z4) fun z5=>cnd (Ah z5.2.2.2) (some (.inr (.inr ((z.2.2.2.1,(z.2.2.2.2.1,z.2.2.2.2.2.1)),z.2.2.2.2.2.2)))) (cnd (iNe z5.1 x.2) (some (.inr (.inr ((z.2.2.2.1,(z.2.2.2.2.1,z.2.2.2.2.2.1)),z.2.2.2.2.2.2)))) (cnd (iNe z5.2.1 z.2.2.2.2.2.2) (some (.inr (.inr ((z.2.2.2.1,(z.2.2.2.2.1,z.2.2.2.2.2.1)),z.2.2.2.2.2.2)))) (bnd (FP ((z.2.2.2.1,(z.2.2.2.2.1,z.2.2.2.2.2.1)),z5.2.2.1)) fun z6=>cnd (Ah z6.2) (some (.inr (.inr ((z.2.2.2.1,(z.2.2.2.2.1,z.2.2.2.2.2.1)),z.2.2.2.2.2.2)))) (some (.inl (z.1,(z.2.1,(z.2.2.1,(z6.1.1,(z6.1.2.1,(z6.1.2.2,(Aj .i64 z.2.2.2.2.2.2 1))))))))))))
def S9 (d:Dv) (g:Int) (i:Nat) (t:Tab):Option Tab:=match Gj (rdD d (F1 g i)) with
 | none=>none
 | some x=>if x.1=g/\x.2.1=(i:Int)/\(L4 t x.2.2).2=true then some (L4 t x.2.2).1 else none
def I8 (d:Dv) (g:Int):Nat->Nat->Tab->Tab×Int
 | 0,i,t=>(t,(i:Int))
 | k+1,i,t=>match S9 d g i t with
  | none=>(t,(i:Int))
  | some t'=>I8 d g k (i+1) t'
def Oy:Tab:=([],(0,[]))
def I9 (d:Dv) (g:Int):Tab×Int:=if 1<=g/\g<=60000 then I8 d g 30 0 Oy else (Oy,0)
theorem Zxw {d:Dv}(h:SmD d) (n:Int):(rdD d n).length<=1048576:=Yri h.2.1 h.2.2.2
theorem Zyc {FA:Int×Int->Option Int}{FR:Dv×Int->Option (List UInt8)}{FG:List UInt8->Option (Int×Int×Rec×Bool)}{FP:Tab×Rec->Option (Tab×Bool)}{d:Dv}{g:Int}(hd:SmD d) (hA:∀i,FA (g,i)=some (F1 g i)) (hR:∀n,FR (d,n)=some (rdD d n)) (hG:∀l:List UInt8,l.length<=1048576000->FG l=some (Qv (Gj l))) (hP:∀(t:Tab) (r:Rec),smT 1048576 t->smC 1048576 r->FP (t,r)=some (L4 t r)){y:RY}{n:Nat}(hn:n<30) (ht:Dc y.2.2.2=true) :
  Zx9 FA FR FG FP (d,g) (y.1,(y.2.1,(y.2.2.1,(y.2.2.2.1,(y.2.2.2.2.1,(y.2.2.2.2.2,(n:Int)))))))=match S9 d g n y.2.2.2 with
   | none=>some (.inr (.inr (y.2.2.2,(n:Int))))
   | some t'=>some (.inl (y.1,(y.2.1,(y.2.2.1,(t'.1,(t'.2.1,(t'.2.2,((n+1:Nat):Int)))))))):=by
 have hs:=Yi2 (rdD d (F1 g n));unfold Zx9 S9;simp only;rw[hA,Aa,hR,Aa,hG _ (by have:=Zxw hd (F1 g n);omega),Aa];cases hg:Gj (rdD d (F1 g n)) with
 | none=>rfl
 | some x =>
  rw[hg]at hs;obtain⟨g',p,r⟩:=x;simp only[Qv,Az,Ac]at hs ⊢;by_cases h1:g'=g
  ·rw[h1,Eo,Ac];by_cases h2:p=(n:Int)
   ·rw[h2,Eo,Ac,show ((y.2.2.2.1,(y.2.2.2.2.1,y.2.2.2.2.2)),r)=(y.2.2.2,r) from rfl,hP _ _ ((Zpt ht).mono (by decide)) ⟨hs.1.mono (by decide),by have:=hs.2;omega⟩,Aa];cases h3:(L4 y.2.2.2 r).2 with
    | false=>rw[Bd,Ad];simp
    | true=>rw[Az,Ac,Cw (by omega)];simp
   ·rw[Jq h2,Ad];simp [h2]
  ·rw[Jq h1,Ad];simp [h1]
theorem Zyb {d:Dv}{g:Int}{i:Nat}{t t':Tab}(ht:Dc t=true) (h:S9 d g i t=some t'):Dc t'=true:=by
 unfold S9 at h;split at h
 ·cases h
 ·split at h
  ·simp only[Ka]at h;rw[<-h];exact Ydk ht
  ·cases h
theorem Zya {d:Dv}{g:Int}:∀(k i:Nat) (t:Tab),Dc t=true->Dc (I8 d g k i t).1=true/\0<=(I8 d g k i t).2/\(I8 d g k i t).2<=(i+k:Nat)
 | 0,i,t,h=>⟨h,by simp only[I8];omega,by simp only[I8];omega⟩
 | k+1,i,t,h=>by
  unfold I8;split
  ·exact⟨h,by simp only;omega,by simp only;omega⟩
  ·rename_i t' h';obtain⟨a,b,c⟩:=Zya (d:=d) (g:=g) k (i+1) t' (Zyb h h');exact⟨a,b,by omega⟩
theorem Zhn:Dc Oy=true:=by decide
theorem Yrp (d:Dv) (g:Int):Dc (I9 d g).1=true/\0<=(I9 d g).2/\(I9 d g).2<=30:=by
 unfold I9;split
 ·exact Zya 30 0 Oy Zhn
 ·exact⟨Zhn,by simp only;omega,by simp only;omega⟩
theorem Zyf {d:Dv}{g:Int}{step:RZ->Option (RZ ⊕ (RY ⊕ (Tab×Int)))}(hB:∀(y:RY) (n:Nat),n<30->Dc y.2.2.2=true->step (y.1,(y.2.1,(y.2.2.1,(y.2.2.2.1,(y.2.2.2.2.1,(y.2.2.2.2.2,(n:Int)))))))=match S9 d g n y.2.2.2 with
   | none=>some (.inr (.inr (y.2.2.2,(n:Int))))
   | some t'=>some (.inl (y.1,(y.2.1,(y.2.2.1,(t'.1,(t'.2.1,(t'.2.2,((n+1:Nat):Int)))))))))
  (hE:∀y:RY,step (y.1,(y.2.1,(y.2.2.1,(y.2.2.2.1,(y.2.2.2.2.1,(y.2.2.2.2.2,30))))))=some (.inr (.inl y))) :
  ∃r,Ar step ([],(0,([],([],(0,([],0))))))=some r/\((∃y:RY,r=.inl y/\I8 d g 30 0 Oy=(y.2.2.2,30))\/r=.inr (I8 d g 30 0 Oy)):=by
 generalize hR:I8 d g 30 0 Oy=R;refine Lm (fun n z=>∃y:RY,z=(y.1,(y.2.1,(y.2.2.1,(y.2.2.2.1,(y.2.2.2.2.1,(y.2.2.2.2.2,(n:Int)))))))/\Dc y.2.2.2=true/\I8 d g (30-n) n y.2.2.2=R) 30 _ ?_ ?_ _ ⟨([],0,[],[],0,[]),rfl,Zhn,hR⟩
 ·rintro n z hn ⟨y,rfl,ht,hy⟩;rw[hB y n hn ht];rw[show 30-n=(30-(n+1))+1 by omega]at hy;unfold I8 at hy;cases hN:S9 d g n y.2.2.2 with
  | none=>rw[hN]at hy;exact .inr ⟨_,rfl,.inr (by rw[<-hy])⟩
  | some t'=>rw[hN]at hy;exact .inl ⟨_,rfl,(y.1,y.2.1,y.2.2.1,t'),rfl,Zyb ht hN,hy⟩
 ·rintro z ⟨y,rfl,ht,hy⟩;exact⟨_,hE y,.inl ⟨y,rfl,by rw[<-hy];rfl⟩⟩
theorem Yot {d:Dv}{g:Int}(hd:SmD d):Xd (d,g)=some (I9 d g):=by
 rw[Xd];simp only;rw[G9,Aa];unfold I9;by_cases h:1<=g/\g<=60000
 case neg=>rw[decide_eq_false h,Bd,Ad,if_neg h];rfl
 rw[decide_eq_true h,Az,Ac,if_pos h];obtain⟨r,e,hr⟩:=Zyf (d:=d) (g:=g) (step:=Zc3 (d,g)) (fun y n hn ht=>by
  rw[Zc3];simp only[Rp];rw[A5 (by omega),Ad];exact Zyc (FA:=Rc) hd (fun i=>rfl) (fun n=>Zvi hd) (fun l hl=>Yoj hl) (fun t r=>Yob) hn ht) (fun y=>by
  rw[Zc3];simp only;rw[A3 (by omega),Ac])
 rw[e];rcases hr with ⟨y,rfl,hy⟩|rfl
 ·rw[Ax,hy]
 ·rfl
theorem Ysr {d:Dv}{g:Int}(hd:SmD d):Xr (d,g)=some (I9 d g):=by
 rw[Xr];unfold I9;simp only;by_cases h:1<=g/\g<=60000
 case neg =>
  rw[show Ar (Ul (d,g)) ([],(0,([],([],(0,([],0))))))=some (.inl ([],0,[],Oy)) from Gn (fun _=>([],(0,([],([],(0,([],0))))))) 0 _ (fun i hi=>by omega) (by
   rw[Ul];simp only;rw[A5 (by omega),Ad,D0,Aa,decide_eq_false h,Ac];rfl) _ rfl,Ax,D0,Aa,decide_eq_false h,Bd,Ad,if_neg h]
 obtain⟨r,e,hr⟩:=Zyf (d:=d) (g:=g) (step:=Ul (d,g)) (fun y n hn ht=>by
  rw[Ul];simp only[Rp];rw[A5 (by omega),Ad,D0,Aa,decide_eq_true h,Ad];exact Zyc (FA:=Xw) hd (fun i=>rfl) (fun n=>Zzo hd) (fun l hl=>Ysj hl) (fun t r=>Ysc) hn ht) (fun y=>by
  rw[Ul];simp only;rw[A3 (by omega),Ac])
 rw[e,if_pos h];rcases hr with ⟨y,rfl,hy⟩|rfl
 ·rw[Ax,D0,Aa,decide_eq_true h,Az,Ac,hy]
 ·rfl
theorem Yqc {d:Dv}{m:Int}(h:SmD d) (h0:0<=m) (hm:m<=1048576):∃m' x1 x2,Rf (d,m)=some (m',(x1,x2))/\x1.length=d.1.length/\x2.length=d.2.1.length/\0<=m':=by
 have h3:=h.2.2.1;obtain⟨m1,x1,a1,a2,a3,a4,a5⟩:=Zwl (x:=d.1) (m:=m) (by omega) (by omega) (by have:=h.1;omega) h.2.1;obtain⟨m2,x2,b1,b2,b3,b4,b5⟩:=Zwm (x:=d.2.1) (m:=m1) (by omega) (by omega) (by omega) h.2.2.2;refine⟨m2,x1,x2, ?_,a3,b3,by omega⟩;rw[Rf,a1,Aa];simp only[a3,b1,Aa,b3,H2,Av]
theorem Zvt {σ ρ:Type}{o:Option (σ ⊕ ρ)}{f:σ->Option ρ}{a:σ}{r:Option ρ}(h:o=some (.inl a)) (h2:f a=r):Ao o f=r:=by rw[h,Ax,h2]
def Zpk:E8:=(([],([],(0,false))),(Oy,(0,0)))
def Z2 (d:Dv) (i:Int) (s:E8):E8:=if (G4 (rdD d i)).2.2=true/\Dy (G4 (rdD d i)).1 2=i/\s.2.2.1<(G4 (rdD d i)).1/\(G4 (rdD d i)).2.1<=(I9 d (G4 (rdD d i)).1).2 then (d,((I9 d (G4 (rdD d i)).1).1,((G4 (rdD d i)).1,(I9 d (G4 (rdD d i)).1).2))) else s
def oAt (d:Dv):Nat->E8
 | 0=>Zpk
 | i+1=>Z2 d i (oAt d i)
def Su (d:Dv):E8×Bool:=if J4 (oAt d 2)=true then (So (oAt d 2),true) else (Zpk,false)
abbrev O9:=List (List UInt8)×List Wr×Int×Bool×List Row×Int×List Cc×Int×Int
abbrev OZ:=List (List UInt8)×List Wr×Int×Bool×List Row×Int×List Cc×Int×Int×Int
def o9 (s:E8):O9:=(s.1.1,(s.1.2.1,(s.1.2.2.1,(s.1.2.2.2,(s.2.1.1,(s.2.1.2.1,(s.2.1.2.2,(s.2.2.1,s.2.2.2))))))))
def oZ (s:E8) (i:Int):OZ:=(s.1.1,(s.1.2.1,(s.1.2.2.1,(s.1.2.2.2,(s.2.1.1,(s.2.1.2.1,(s.2.1.2.2,(s.2.2.1,(s.2.2.2,i)))))))))
theorem Zxa {ρ:Type}{FR:Dv×Int->Option (List UInt8)}{FH:List UInt8->Option (Int×Int×Bool)}{FP:Dv×Int->Option (Tab×Int)}{FC:Dv->Option Dv}{d:Dv}{i:Int}{s:E8}(hd:SmD d) (hR:FR (d,i)=some (rdD d i)) (hH:∀l:List UInt8,l.length<=1048576->FH l=some (G4 l)) (hP:∀g,FP (d,g)=some (I9 d g)) (hC:FC d=some d) :
  (bnd (FR (d,i)) fun z2=>bnd (FH z2) fun z3=>cnd (Ah z3.2.2) (some (.inl (o9 s))) (cnd (iNe (Dy z3.1 2) i) (some (.inl (o9 s))) (cnd (iLe z3.1 s.2.2.1) (some (.inl (o9 s))) (bnd (FP (d,z3.1)) fun z4=>cnd (iGe z4.2 z3.2.1) (bnd (FC d) fun z5=>some (.inl (z5.1,(z5.2.1,(z5.2.2.1,(z5.2.2.2,(z4.1.1,(z4.1.2.1,(z4.1.2.2,(z3.1,z4.2)))))))))) (some (.inl (o9 s)))))))=(some (.inl (o9 (Z2 d i s))):Option (O9 ⊕ ρ)):=by
 rw[hR,Aa,hH _ (Zxw hd i),Aa];unfold Z2;generalize G4 (rdD d i)=h;obtain⟨g,n,ok⟩:=h;simp only;cases ok with
 | false=>rw[Bd,Ad,if_neg (by simp)]
 | true =>
  rw[Az,Ac];by_cases h1:Dy g 2=i
  case neg=>rw[Jq h1,Ad,if_neg (by simp [h1])]
  rw[h1,Eo,Ac];by_cases h2:g<=s.2.2.1
  ·rw[G8 h2,Ad,if_neg (by intro h;omega)]
  rw[Jp (by omega),Ac,hP,Aa];by_cases h3:n<=(I9 d g).2
  ·rw[Qd h3,Ad,hC,Aa,if_pos ⟨rfl,rfl,by omega,h3⟩];rfl
  ·rw[N5 (by omega),Ac,if_neg (by intro h;omega)]
theorem Yop {d:Dv}(h:smD 1048576 d):Xa d=some (Su d)/\Zcp d=some (Su d)/\smS 1048576 (Su d).1:=by
 have hd:=Tg h;have hs:∀n,smS 1048576 (oAt d n):=by
  intro n
  induction n with
  | zero=>exact⟨⟨Koa _,fun s hs=>(by cases hs),Koa _,fun s hs=>(by cases hs)⟩,(Zpt Zhn).mono (by decide)⟩
  | succ n ih =>
   show smS 1048576 (Z2 d n (oAt d n));unfold Z2;split
   ·exact⟨h,(Zpt (Yrp d _).1).mono (by decide)⟩
   ·exact ih
 have s0:smS 1048576 Zpk:=hs 0;refine⟨?_, ?_, ?_⟩
 ·rw[Xa];rw[show Ar (Zc1 d) ([],([],(0,(false,([],(0,([],(0,(0,0)))))))))=some (.inl (o9 (oAt d 2))) from Gn (fun n=>oZ (oAt d n) (n:Int)) 2 _ (fun n hn=>by
   rw[Zc1];have e:=Zxa (ρ:=OZ ⊕ (O9 ⊕ (E8×Bool))) (FR:=Tx) (FH:=W4) (FP:=Xd) (FC:=L0) (i:=(n:Int)) (s:=oAt d n) hd (Zvi hd) (fun l=>Yoi) (fun g=>Yot hd) (Zfj hd);simp only[oZ];rw[A5 (by omega),Ad];refine Zvt e ?_;rw[Cw (by omega)];rfl) (by
   rw[Zc1];simp only[oZ];rw[A3 (by omega),Ac];rfl) _ rfl,Ax]
  have ho:=Zvj (hs 2);have hl:=Yoo (hs 2);simp only[o9];rw[show Tz (((oAt d 2).1.1,((oAt d 2).1.2.1,((oAt d 2).1.2.2.1,(oAt d 2).1.2.2.2))),(((oAt d 2).2.1.1,((oAt d 2).2.1.2.1,(oAt d 2).2.1.2.2)),((oAt d 2).2.2.1,(oAt d 2).2.2.2)))=_ from ho,Aa,show W8 (((oAt d 2).1.1,((oAt d 2).1.2.1,((oAt d 2).1.2.2.1,(oAt d 2).1.2.2.2))),(((oAt d 2).2.1.1,((oAt d 2).2.1.2.1,(oAt d 2).2.1.2.2)),((oAt d 2).2.2.1,(oAt d 2).2.2.2)))=_ from hl,Aa];unfold Su;cases hk:J4 (oAt d 2) with
  | false=>rw[Bd,Ad,if_neg (by simp)];cases iEq (oAt d 2).2.2.1 0<;>rfl
  | true=>rw[Eg (by have:=Zau hk;omega),Ac,Az,Ac,if_pos rfl]
 ·rw[Zcp];rw[show Ar (Zdg d) ([],([],(0,(false,([],(0,([],(0,(0,0)))))))))=some (.inl (o9 (oAt d 2))) from Gn (fun n=>oZ (oAt d n) (n:Int)) 2 _ (fun n hn=>by
   rw[Zdg];have e:=Zxa (ρ:=OZ ⊕ (O9 ⊕ (E8×Bool))) (FR:=Rj) (FH:=Xn) (FP:=Xr) (FC:=Ud) (i:=(n:Int)) (s:=oAt d n) hd (Zzo hd) (fun l=>Ysi) (fun g=>Ysr hd) (Zzj hd);simp only[oZ];rw[A5 (by omega),Ad];refine Zvt e ?_;rw[Cw (by omega)];rfl) (by
   rw[Zdg];simp only[oZ];rw[A3 (by omega),Ac];rfl) _ rfl,Ax]
  have ho:=Zzp (hs 2);have hl:=Ysn (hs 2);simp only[o9];rw[show Uc (((oAt d 2).1.1,((oAt d 2).1.2.1,((oAt d 2).1.2.2.1,(oAt d 2).1.2.2.2))),(((oAt d 2).2.1.1,((oAt d 2).2.1.2.1,(oAt d 2).2.1.2.2)),((oAt d 2).2.2.1,(oAt d 2).2.2.2)))=_ from ho,Aa,show Xo (((oAt d 2).1.1,((oAt d 2).1.2.1,((oAt d 2).1.2.2.1,(oAt d 2).1.2.2.2))),(((oAt d 2).2.1.1,((oAt d 2).2.1.2.1,(oAt d 2).2.1.2.2)),((oAt d 2).2.2.1,(oAt d 2).2.2.2)))=_ from hl,Aa];unfold Su;cases hk:J4 (oAt d 2) with
  | false=>rw[Bd,Ad,if_neg (by simp)];rfl
  | true=>rw[Az,Ac,if_pos rfl]
 ·unfold Su;split
  ·exact Yps (hs 2)
  ·exact s0
theorem Ypq {d:Dev}(h:smD 9223372036854775807 d):Zii d=some true:=by
 obtain⟨z,h1,h2,h3⟩:=Yud (k:=1048576) (by omega) (by omega) h;rw[Zii];rw[h1,Aa];by_cases hz:z<0
 ·rw[A5 hz];rfl
 rw[A3 (by omega),Ac];have hs:=h3 (by omega);obtain⟨iO,sO,sy⟩:=Yop hs;obtain⟨m1,x1,x2,a1,a3,a4,a5⟩:=Yqc (m:=1) (Tg hs) (by omega) (by omega);obtain⟨m3,c1,c2,c3,c4,f2,r0,r1,r2,r3,r4,f3⟩:=Yqf (s:=(Su d).1) ⟨Tg sy.1,sy.2⟩;have e1:=Yuj hs;have e3:=Yil sy;have e4:=Zt1 hs;have l1:iLt m1 0=false:=A3 (by omega);have l2:iLt m3 0=false:=A3 (by omega);simp only[e1,e3,e4,Aa,iO,sO,Az,Ac,Zdu,a1,a3,a4,H2,Av,l1,f2,r1,r2,r3,r4,f3,l2,Eo,Rp]
end
end Go.Vs
