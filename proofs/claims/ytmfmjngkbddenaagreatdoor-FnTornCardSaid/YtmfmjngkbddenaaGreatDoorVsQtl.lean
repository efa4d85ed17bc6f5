import Derived.Test.YtmfmjngkbddenaaGreatDoorVsQtk
set_option linter.all false
namespace Go.Vs
noncomputable section
abbrev RY:=List Row×Int×List Bv×Tab
abbrev RZ:=List Row×Int×List Bv×List Row×Int×List Bv×Int
def Zzw (FA:Int×Int->Option Int) (FR:Dv×Int->Option (List UInt8)) (FG:List UInt8->Option (Int×Int×Rec×Bool)) (FP:Tab×Rec->Option (Tab×Bool)) (x:Dv×Int) (z:RZ):Option (RZ ⊕ (RY ⊕ (Tab×Int))) :=
 bnd (FA (x.2,z.2.2.2.2.2.2)) fun z3=>bnd (FR (x.1,z3)) fun z4=>bnd (FG z4) fun z5=>cnd (Ag z5.2.2.2) (some (.inr (.inr ((z.2.2.2.1,(z.2.2.2.2.1,z.2.2.2.2.2.1)),z.2.2.2.2.2.2)))) (cnd (iNe z5.1 x.2) (some (.inr (.inr ((z.2.2.2.1,(z.2.2.2.2.1,z.2.2.2.2.2.1)),z.2.2.2.2.2.2)))) (cnd (iNe z5.2.1 z.2.2.2.2.2.2) (some (.inr (.inr ((z.2.2.2.1,(z.2.2.2.2.1,z.2.2.2.2.2.1)),z.2.2.2.2.2.2)))) (bnd (FP ((z.2.2.2.1,(z.2.2.2.2.1,z.2.2.2.2.2.1)),z5.2.2.1)) fun z6=>cnd (Ag z6.2) (some (.inr (.inr ((z.2.2.2.1,(z.2.2.2.2.1,z.2.2.2.2.2.1)),z.2.2.2.2.2.2)))) (some (.inl (z.1,(z.2.1,(z.2.2.1,(z6.1.1,(z6.1.2.1,(z6.1.2.2,(Aj .i64 z.2.2.2.2.2.2 1))))))))))))
def Mg (d:Dv) (g:Int) (i:Nat) (t:Tab):Option Tab:=match Gz (rdD d (Df g i)) with
 | none=>none
 | some x=>if x.1=g/\x.2.1=(i:Int)/\(Cj t x.2.2).2=true then some (Cj t x.2.2).1 else none
def Ht (d:Dv) (g:Int):Nat->Nat->Tab->Tab×Int
 | 0,i,t=>(t,(i:Int))
 | k+1,i,t=>match Mg d g i t with
  | none=>(t,(i:Int))
  | some t'=>Ht d g k (i+1) t'
def Ij:Tab:=([],(0,[]))
def Js (d:Dv) (g:Int):Tab×Int:=if 1<=g/\g<=60000 then Ht d g 30 0 Ij else (Ij,0)
theorem Zzm {d:Dv}(h:SmD d) (n:Int):(rdD d n).length<=1048576:=Ysz h.2.1 h.2.2.2
theorem Ys8 {FA:Int×Int->Option Int}{FR:Dv×Int->Option (List UInt8)}{FG:List UInt8->Option (Int×Int×Rec×Bool)}{FP:Tab×Rec->Option (Tab×Bool)}{d:Dv}{g:Int}(hd:SmD d) (hA:∀i,FA (g,i)=some (Df g i)) (hR:∀n,FR (d,n)=some (rdD d n)) (hG:∀l:List UInt8,l.length<=1048576000->FG l=some (W1 (Gz l))) (hP:∀(t:Tab) (r:Rec),smT 1048576 t->smC 1048576 r->FP (t,r)=some (Cj t r)){y:RY}{n:Nat}(hn:n<30) (ht:B7 y.2.2.2=true) :
  Zzw FA FR FG FP (d,g) (y.1,(y.2.1,(y.2.2.1,(y.2.2.2.1,(y.2.2.2.2.1,(y.2.2.2.2.2,(n:Int)))))))=match Mg d g n y.2.2.2 with
   | none=>some (.inr (.inr (y.2.2.2,(n:Int))))
   | some t'=>some (.inl (y.1,(y.2.1,(y.2.2.1,(t'.1,(t'.2.1,(t'.2.2,((n+1:Nat):Int)))))))):=by
 have hs:=Ykc (rdD d (Df g n));unfold Zzw Mg;simp only;rw[hA,Aa,hR,Aa,hG _ (by have:=Zzm hd (Df g n);omega),Aa];cases hg:Gz (rdD d (Df g n)) with
 | none=>rfl
 | some x =>
  rw[hg]at hs;obtain⟨g',p,r⟩:=x;simp only[W1,Av,Ac]at hs ⊢;by_cases h1:g'=g
  ·rw[h1,Oq,Ac];by_cases h2:p=(n:Int)
   ·rw[h2,Oq,Ac,show ((y.2.2.2.1,(y.2.2.2.2.1,y.2.2.2.2.2)),r)=(y.2.2.2,r) from rfl,hP _ _ ((Xg ht).mono (by decide)) ⟨hs.1.mono (by decide),by have:=hs.2;omega⟩,Aa];cases h3:(Cj y.2.2.2 r).2 with
    | false=>rw[A5,Ad];simp
    | true=>rw[Av,Ac,C4 (by omega)];simp
   rw[Iz h2,Ad];simp [h2]
  rw[Iz h1,Ad];simp [h1]
theorem Zzy {d:Dv}{g:Int}{i:Nat}{t t':Tab}(ht:B7 t=true) (h:Mg d g i t=some t'):B7 t'=true:=by
 unfold Mg at h;split at h
 ·cases h
 split at h
 ·simp only[Ka]at h;rw[<-h];exact Yeq ht
 cases h
theorem Zzx {d:Dv}{g:Int}:∀(k i:Nat) (t:Tab),B7 t=true->B7 (Ht d g k i t).1=true/\0<=(Ht d g k i t).2/\(Ht d g k i t).2<=(i+k:Nat)
 | 0,i,t,h=>⟨h,by simp only[Ht];omega,by simp only[Ht];omega⟩
 | k+1,i,t,h=>by
  unfold Ht;split
  ·exact⟨h,by simp only;omega,by simp only;omega⟩
  rename_i t' h';obtain⟨a,b,c⟩:=Zzx (d:=d) (g:=g) k (i+1) t' (Zzy h h');exact⟨a,b,by omega⟩
theorem Uf:B7 Ij=true:=by decide
theorem Yta (d:Dv) (g:Int):B7 (Js d g).1=true/\0<=(Js d g).2/\(Js d g).2<=30:=by
 unfold Js;split
 ·exact Zzx 30 0 Ij Uf
 exact⟨Uf,by simp only;omega,by simp only;omega⟩
theorem Ys9 {d:Dv}{g:Int}{step:RZ->Option (RZ ⊕ (RY ⊕ (Tab×Int)))}(hB:∀(y:RY) (n:Nat),n<30->B7 y.2.2.2=true->step (y.1,(y.2.1,(y.2.2.1,(y.2.2.2.1,(y.2.2.2.2.1,(y.2.2.2.2.2,(n:Int)))))))=match Mg d g n y.2.2.2 with
   | none=>some (.inr (.inr (y.2.2.2,(n:Int))))
   | some t'=>some (.inl (y.1,(y.2.1,(y.2.2.1,(t'.1,(t'.2.1,(t'.2.2,((n+1:Nat):Int)))))))))
  (hE:∀y:RY,step (y.1,(y.2.1,(y.2.2.1,(y.2.2.2.1,(y.2.2.2.2.1,(y.2.2.2.2.2,30))))))=some (.inr (.inl y))) :
  ∃r,Aw step ([],(0,([],([],(0,([],0))))))=some r/\((∃y:RY,r=.inl y/\Ht d g 30 0 Ij=(y.2.2.2,30))\/r=.inr (Ht d g 30 0 Ij)):=by
 generalize hR:Ht d g 30 0 Ij=R;refine M7 (fun n z=>∃y:RY,z=(y.1,(y.2.1,(y.2.2.1,(y.2.2.2.1,(y.2.2.2.2.1,(y.2.2.2.2.2,(n:Int)))))))/\B7 y.2.2.2=true/\Ht d g (30-n) n y.2.2.2=R) 30 _ ?_ ?_ _ ⟨([],0,[],[],0,[]),rfl,Uf,hR⟩
 ·rintro n z hn ⟨y,rfl,ht,hy⟩;rw[hB y n hn ht];rw[show 30-n=(30-(n+1))+1 by omega]at hy;unfold Ht at hy;cases hN:Mg d g n y.2.2.2 with
  | none=>rw[hN]at hy;exact .inr ⟨_,rfl,.inr (by rw[<-hy])⟩
  | some t'=>rw[hN]at hy;exact .inl ⟨_,rfl,(y.1,y.2.1,y.2.2.1,t'),rfl,Zzy ht hN,hy⟩
 rintro z ⟨y,rfl,ht,hy⟩;exact⟨_,hE y,.inl ⟨y,rfl,by rw[<-hy];rfl⟩⟩
theorem Ypn {d:Dv}{g:Int}(hd:SmD d):Yb (d,g)=some (Js d g):=by
 rw[Yb];simp only;rw[G1,Aa];unfold Js;by_cases h:1<=g/\g<=60000
 case neg=>rw[decide_eq_false h,A5,Ad,if_neg h];rfl
 rw[decide_eq_true h,Av,Ac,if_pos h];obtain⟨r,e,hr⟩:=Ys9 (d:=d) (g:=g) (step:=Zdu (d,g)) (fun y n hn ht=>by
  rw[Zdu];simp only[P7];rw[A3 (by omega),Ad];exact Ys8 (FA:=Mp) hd (fun i=>rfl) (fun n=>Zwy hd) (fun l hl=>Ypf hl) (fun t r=>Zmz) hn ht) (fun y=>by
  rw[Zdu];simp only;rw[A6 (by omega),Ac])
 rw[e];rcases hr with ⟨y,rfl,hy⟩|rfl
 ·rw[Ar,hy]
 rfl
def G8 (u:Bw) (r:Rec):Dv :=
 let d:Dv:=(u.1.1,wrC u.1.1 u.1.2.1 u.1.2.2.1 u.1.2.2.2 (Df u.2.2.1 u.2.2.2) (Ck u.2.2.1 u.2.2.2 r))
 flC d.1 d.2.1 d.2.2.1 d.2.2.2
def Fa (u:Bw) (t:Tab) (r:Rec):Bw×Bool:=if u.1.2.2.2=true\/u.2.2.2=30 then (u,false) else if (G8 u r).2.2.2=true then ((G8 u r,u.2),false) else ((G8 u r,(t,(u.2.2.1,Aj .i64 u.2.2.2 1))),true)
def D9 (s:Bw):Bw:=if s.2.2.2=30 then Gf s else s
def Gr (s:Bw) (r:Rec):Bw×Bool:=if Ii s=true/\s.1.2.2.2=false/\(Cj s.2.1 r).2=true then Fa (D9 s) (Cj s.2.1 r).1 r else (s,false)
theorem Znn {σ ρ:Type}{o:Option (σ ⊕ ρ)}{f:σ->Option ρ}{a:σ}{r:Option ρ}(h:o=some (.inl a)) (h2:f a=r):Ao o f=r:=by rw[h,Ar,h2]
theorem Yfq {α:Type}{b:Bool}{x y:Option α}(h:b=false):cnd b x y=y:=by rw[h];rfl
theorem Yfr {α:Type}{b:Bool}{x y:Option α}(h:b=true):cnd b x y=x:=by rw[h];rfl
theorem Yq0 {s:Bw}(h:dOk s.1=true):dOk (Gf s).1=true:=by
 unfold Gf;split
 ·exact Th h
 exact h
theorem Zvv {s:Bw}(h:dOk s.1=true):dOk (D9 s).1=true:=by
 unfold D9;split
 ·exact Yq0 h
 exact h
theorem Zzh {u:Bw}{r:Rec}(h:dOk u.1=true):dOk (G8 u r)=true:=Z0 (Uo h)
theorem Yss {u:Bw}{t:Tab}{r:Rec}(h:dOk u.1=true) (hr:smC 1048576 r) :
  (cnd u.1.2.2.2 (some (u,false)) (cnd (iEq u.2.2.2 30) (some (u,false)) (bnd (Mp u.2.2) fun z5=>bnd (Ry (u.2.2.1,(u.2.2.2,r))) fun z6=>bnd (Ji (u.1,(z5,z6))) fun z7=>bnd (Lm z7) fun z8=>cnd z8.2.2.2 (some ((z8,u.2),false)) (some ((z8,(t,(u.2.2.1,Aj .i64 u.2.2.2 1))),true)))))=some (Fa u t r):=by
 have w:=wr2 (n:=Df u.2.2.1 u.2.2.2) (b:=Ck u.2.2.1 u.2.2.2 r) h (Zhe _ _ _);have k:=Uo (n:=Df u.2.2.1 u.2.2.2) (b:=Ck u.2.2.1 u.2.2.2 r) h;have f:=fl2 k;unfold Fa;cases hd:u.1.2.2.2 with
 | true=>rw[Ad,if_pos (.inl rfl)]
 | false =>
  rw[Ac];by_cases hp:u.2.2.2=30
  ·rw[E8,decide_eq_true hp,Ad,if_pos (.inr hp)]
  rw[Dp hp,Ac,if_neg (by simp [hp]),show Mp u.2.2=some (Df u.2.2.1 u.2.2.2) from rfl,Aa,Zm1 hr,Aa,w.1,Aa,f.1,Aa]
  change cnd (G8 u r).2.2.2 (some ((G8 u r,u.2),false)) _=_
  cases hq:(G8 u r).2.2.2 with
  | true=>rw[Ad,if_pos rfl]
  | false=>rw[Ac];rfl
theorem Yst {u:Bw}{t:Tab}{r:Rec}(h:dOk u.1=true) (hr:smC 1048576 r) :
  (cnd u.1.2.2.2 (some (false,u)) (cnd (iEq u.2.2.2 30) (some (false,u)) (bnd (U6 u.2.2) fun z3=>bnd (Uz (u.2.2.1,(u.2.2.2,r))) fun z4=>bnd (Mq (u.1,(z3,z4))) fun z5=>bnd (Lq (u.1.1,z5)) fun z6=>cnd z6.2.2.2 (some (false,(z6,u.2))) (some (true,(z6,(t,(u.2.2.1,Aj .i64 u.2.2.2 1))))))))=some ((Fa u t r).2,(Fa u t r).1):=by
 have w:=wr2 (n:=Df u.2.2.1 u.2.2.2) (b:=Ck u.2.2.1 u.2.2.2 r) h (Zhe _ _ _);have k:=Uo (n:=Df u.2.2.1 u.2.2.2) (b:=Ck u.2.2.1 u.2.2.2 r) h;have f:=fl2 k;unfold Fa;cases hd:u.1.2.2.2 with
 | true=>rw[Ad,if_pos (.inl rfl)]
 | false =>
  rw[Ac];by_cases hp:u.2.2.2=30
  ·rw[E8,decide_eq_true hp,Ad,if_pos (.inr hp)]
  rw[Dp hp,Ac,if_neg (by simp [hp]),show U6 u.2.2=some (Df u.2.2.1 u.2.2.2) from rfl,Aa,Ya1 hr,Aa,w.2,Aa,f.2,Aa]
  change cnd (G8 u r).2.2.2 (some (false,(G8 u r,u.2))) _=_
  cases hq:(G8 u r).2.2.2 with
  | true=>rw[Ad,if_pos rfl]
  | false=>rw[Ac];rfl
theorem Yo7 {s:Bw}{r:Rec}(h:smS 1048576 s) (hr:smC 1048576 r):Zco (s,r)=some (Gr s r):=by
 rw[Zco];simp only;have ec:Ut s=some s:=by rw[Ut,Wa (Zie h.1),Aa,Zm6 h.2,Aa]
 rw[ec,Aa,Zmz h.2 hr,Aa,Zm4 h,Aa];unfold Gr;cases ho:Ii s with
 | false=>rw[A5,Ad,if_neg (by simp)]
 | true =>
  obtain⟨hd,g1,g2⟩:=Zih ho;rw[Av,Ac];rcases Bool.eq_false_or_eq_true s.1.2.2.2 with hdn|hdn
  ·rw[Yfr hdn,if_neg (by simp [hdn])]
  rw[Yfq hdn];rcases Bool.eq_false_or_eq_true (Cj s.2.1 r).2 with ha|ha
  case inr=>rw[ha,A5,Ad,if_neg (by simp)]
  rw[show Ag (Cj s.2.1 r).2=false by rw[ha];rfl,Ac,if_pos ⟨rfl,hdn,ha⟩];have hf:(cnd (iEq s.2.2.2 30) (bnd (Rx s) (fun z4=>(some (.inl (z4.1.1,(z4.1.2.1,(z4.1.2.2.1,(z4.1.2.2.2,(z4.2.1.1,(z4.2.1.2.1,(z4.2.1.2.2,z4.2.2))))))))))) (some (.inl (s.1.1,(s.1.2.1,(s.1.2.2.1,(s.1.2.2.2,(s.2.1.1,(s.2.1.2.1,(s.2.1.2.2,s.2.2))))))))):Option (_ ⊕ (Bw×Bool)))=some (.inl ((D9 s).1.1,((D9 s).1.2.1,((D9 s).1.2.2.1,((D9 s).1.2.2.2,((D9 s).2.1.1,((D9 s).2.1.2.1,((D9 s).2.1.2.2,(D9 s).2.2)))))))):=by
   unfold D9;by_cases hp:s.2.2.2=30
   ·rw[E8,decide_eq_true hp,Ad,Zwv h,Aa,if_pos hp]
   rw[Dp hp,Ac,if_neg hp]
  exact Znn hf (Yss (Zvv hd) hr)
theorem Yup {s:Bw}{r:Rec}(h:smS 1048576 s) (hr:smC 1048576 r) (ho:Ii s=true) (hdn:s.1.2.2.2=false):Yu (s,r)=some ((Gr s r).2,(Gr s r).1):=by
 obtain⟨hd,g1,g2⟩:=Zih ho;have hR:=Zpi h.2;rw[Yu];simp only[P7];rw[Ytt h.2 hr,Aa];unfold Gr;cases ha:(Cj s.2.1 r).2 with
 | false=>rw[A5,Ad,if_neg (by simp)]
 | true =>
  rw[Av,Ac,if_pos ⟨ho,hdn,rfl⟩];have hf:(cnd (iEq s.2.2.2 30) (cnd (iLt s.2.2.1 60000) (bnd (P2 (s,(Aj .i64 s.2.2.1 1))) (fun z2=>(some (.inl z2)))) (some (.inl (s.1.1,(s.1.2.1,(s.1.2.2.1,(s.1.2.2.2,(s.2.1.2.1,s.2.2)))))))) (some (.inl (s.1.1,(s.1.2.1,(s.1.2.2.1,(s.1.2.2.2,(s.2.1.2.1,s.2.2))))))):Option (_ ⊕ (Bool×Bw)))=some (.inl ((D9 s).1.1,((D9 s).1.2.1,((D9 s).1.2.2.1,((D9 s).1.2.2.2,((D9 s).2.1.2.1,(D9 s).2.2))))))/\(D9 s).2.1=s.2.1:=by
   unfold D9;by_cases hp:s.2.2.2=30
   ·rw[E8,decide_eq_true hp,Ad,if_pos hp];unfold Gf;by_cases hg:s.2.2.1=60000
    ·rw[A6 (by omega),Ac,if_neg (c:=Ii s=true/\s.1.2.2.2=false/\s.2.2.1≠60000) (by simp [hg])];exact⟨rfl,rfl⟩
    rw[A3 (by omega),Ad,Cz (by omega) (by omega)];have e:=Ya5 (D:=s.1) (T:=s.2.1) (gp:=s.2.2) (g:=s.2.2.1+1) hd (Yay h.2) hR.1 hR.2;rw[show P2 (s,s.2.2.1+1)=_ from e,Aa,if_pos (c:=Ii s=true/\s.1.2.2.2=false/\s.2.2.1≠60000) ⟨ho,hdn,hg⟩];exact⟨rfl,rfl⟩
   rw[Dp hp,Ac,if_neg hp];exact⟨rfl,rfl⟩
  obtain⟨hf,ht⟩:=hf;refine Znn hf ?_;rw[<-ht];exact Yst (Zvv hd) hr
def Ud:Bw:=(([],([],(0,false))),(Ij,(0,0)))
def Ib (d:Dv) (i:Int) (s:Bw):Bw:=if (Eo (rdD d i)).2.2=true/\De (Eo (rdD d i)).1 2=i/\s.2.2.1<(Eo (rdD d i)).1/\(Eo (rdD d i)).2.1<=(Js d (Eo (rdD d i)).1).2 then (d,((Js d (Eo (rdD d i)).1).1,((Eo (rdD d i)).1,(Js d (Eo (rdD d i)).1).2))) else s
def oAt (d:Dv):Nat->Bw
 | 0=>Ud
 | i+1=>Ib d i (oAt d i)
def Ma (d:Dv):Bw×Bool:=if Ii (oAt d 2)=true then (Gf (oAt d 2),true) else (Ud,false)
abbrev O9:=List (List UInt8)×List Wr×Int×Bool×List Row×Int×List Bv×Int×Int
abbrev OZ:=List (List UInt8)×List Wr×Int×Bool×List Row×Int×List Bv×Int×Int×Int
def o9 (s:Bw):O9:=(s.1.1,(s.1.2.1,(s.1.2.2.1,(s.1.2.2.2,(s.2.1.1,(s.2.1.2.1,(s.2.1.2.2,(s.2.2.1,s.2.2.2))))))))
def oZ (s:Bw) (i:Int):OZ:=(s.1.1,(s.1.2.1,(s.1.2.2.1,(s.1.2.2.2,(s.2.1.1,(s.2.1.2.1,(s.2.1.2.2,(s.2.2.1,(s.2.2.2,i)))))))))
theorem Yr9 {ρ:Type}{FR:Dv×Int->Option (List UInt8)}{FH:List UInt8->Option (Int×Int×Bool)}{FP:Dv×Int->Option (Tab×Int)}{FC:Dv->Option Dv}{d:Dv}{i:Int}{s:Bw}(hd:SmD d) (hR:FR (d,i)=some (rdD d i)) (hH:∀l:List UInt8,l.length<=1048576->FH l=some (Eo l)) (hP:∀g,FP (d,g)=some (Js d g)) (hC:FC d=some d) :
  (bnd (FR (d,i)) fun z2=>bnd (FH z2) fun z3=>cnd (Ag z3.2.2) (some (.inl (o9 s))) (cnd (iNe (De z3.1 2) i) (some (.inl (o9 s))) (cnd (iLe z3.1 s.2.2.1) (some (.inl (o9 s))) (bnd (FP (d,z3.1)) fun z4=>cnd (iGe z4.2 z3.2.1) (bnd (FC d) fun z5=>some (.inl (z5.1,(z5.2.1,(z5.2.2.1,(z5.2.2.2,(z4.1.1,(z4.1.2.1,(z4.1.2.2,(z3.1,z4.2)))))))))) (some (.inl (o9 s)))))))=(some (.inl (o9 (Ib d i s))):Option (O9 ⊕ ρ)):=by
 rw[hR,Aa,hH _ (Zzm hd i),Aa];unfold Ib;generalize Eo (rdD d i)=h;obtain⟨g,n,ok⟩:=h;simp only;cases ok with
 | false=>rw[A5,Ad,if_neg (by simp)]
 | true =>
  rw[Av,Ac];by_cases h1:De g 2=i
  case neg=>rw[Iz h1,Ad,if_neg (by simp [h1])]
  rw[h1,Oq,Ac];by_cases h2:g<=s.2.2.1
  ·rw[G0 h2,Ad,if_neg (by intro h;omega)]
  rw[K5 (by omega),Ac,hP,Aa];by_cases h3:n<=(Js d g).2
  ·rw[Qz h3,Ad,hC,Aa,if_pos ⟨rfl,rfl,by omega,h3⟩];rfl
  rw[Oo (by omega),Ac,if_neg (by intro h;omega)]
theorem Yr4 {d:Dv}(h:smD 1048576 d):∀n,smS 1048576 (oAt d n):=by
 intro n
 induction n with
 | zero=>exact⟨⟨Kda _,fun s hs=>(by cases hs),Kda _,fun s hs=>(by cases hs)⟩,(Xg Uf).mono (by decide)⟩
 | succ n ih =>
  show smS 1048576 (Ib d n (oAt d n));unfold Ib;split
  ·exact⟨h,(Xg (Yta d _).1).mono (by decide)⟩
  exact ih
theorem Zwx {d:Dv}(h:smD 1048576 d):X9 d=some (Ma d):=by
 have hd:=Zie h;have hs:=Yr4 h;rw[X9];rw[show Aw (Zds d) ([],([],(0,(false,([],(0,([],(0,(0,0)))))))))=some (.inl (o9 (oAt d 2))) from I3 (fun n=>oZ (oAt d n) (n:Int)) 2 _ (fun n hn=>by
  rw[Zds];have e:=Yr9 (ρ:=OZ ⊕ (O9 ⊕ (Bw×Bool))) (FR:=Ur) (FH:=X3) (FP:=Yb) (FC:=J2) (i:=(n:Int)) (s:=oAt d n) hd (Zwy hd) (fun l=>Ype) (fun g=>Ypn hd) (Wa hd);simp only[oZ];rw[A3 (by omega),Ad];refine Znn e ?_;rw[C4 (by omega)];rfl) (by
  rw[Zds];simp only[oZ];rw[A6 (by omega),Ac];rfl) _ rfl,Ar]
 have ho:=Zm4 (hs 2);have hl:=Zwv (hs 2);simp only[o9];rw[show Rz (((oAt d 2).1.1,((oAt d 2).1.2.1,((oAt d 2).1.2.2.1,(oAt d 2).1.2.2.2))),(((oAt d 2).2.1.1,((oAt d 2).2.1.2.1,(oAt d 2).2.1.2.2)),((oAt d 2).2.2.1,(oAt d 2).2.2.2)))=_ from ho,Aa,show Rx (((oAt d 2).1.1,((oAt d 2).1.2.1,((oAt d 2).1.2.2.1,(oAt d 2).1.2.2.2))),(((oAt d 2).2.1.1,((oAt d 2).2.1.2.1,(oAt d 2).2.1.2.2)),((oAt d 2).2.2.1,(oAt d 2).2.2.2)))=_ from hl,Aa];unfold Ma;cases hk:Ii (oAt d 2) with
 | false=>rw[A5,Ad,if_neg (by simp)];cases iEq (oAt d 2).2.2.1 0<;>rfl
 | true=>rw[Dp (by have:=Zih hk;omega),Ac,Av,Ac,if_pos rfl]
end
end Go.Vs
