import Derived.Test.YtmfmjngkbddenaaGreatDoorVsW5
import Derived.Test.YtmfmjngkbddenaaGreatDoorVsQo3
set_option linter.all false
namespace Go.Vs
noncomputable section
theorem Yl2 {n:Nat}(h:n<65536):(Aq (cnd (iGt ((2*n:Nat):Int) 65535) (some (.inl (Oc .i64 ((2*n:Nat):Int) 69665))) (some (.inl ((2*n:Nat):Int)))) fun z=>some z:Option Int)=some ((Mc n:Nat):Int):=by
 unfold Mc;by_cases h1:2*n > 65535
 ·rw[Dp (by omega),Ag,if_pos h1,show (69665:Int)=((69665:Nat):Int) from rfl,Wx (k:=.i64) (by show _<2^63;omega) (by show _<2^63;omega)];rfl
 ·rw[Er (by omega),Ae,if_neg h1];rfl
theorem Zu5 {ρ:Type}{step:Int×Int->Option ((Int×Int) ⊕ (Int ⊕ ρ))}{x:Nat}(hx:x<65536)
  (hs:∀n i:Nat,n<65536->i<8->step ((n:Int),(i:Int))=some (.inl (((Mc n:Nat):Int),((i+1:Nat):Int))))
  (he:∀n:Nat,step ((n:Int),8)=some (.inr (.inl (n:Int)))):Ar step ((x:Int),0)=some (.inl ((Jf 8 x:Nat):Int)):=by
 rw[Jp (fun i=>(((Jf i x:Nat):Int),(i:Int))) 8 (.inl ((Jf 8 x:Nat):Int))]
 ·intro i hi;rw[hs _ _ (Znz hx) hi,<-Zyw]
 ·exact he _
 ·rfl
theorem Ylb {x:Nat}(hx:x<65536):Ar Zfj ((x:Int),0)=some (.inl ((Jf 8 x:Nat):Int)):=by
 refine Zu5 hx (fun n i hn hi=>?_) fun n=>rfl;have e:Br .i64 (n:Int) 1=((2*n:Nat):Int):=by
  rw[show Br .i64 (n:Int) 1=((n*2^1:Nat):Int) from Tc (k:=.i64) (s:=1) (by decide) (by show _<2^63;omega)];congr 1;omega
 have k:=Yl2 hn;unfold Zfj;simp only[e];rw[A6 (by omega),Ag];unfold Mc;by_cases h1:2*n > 65535
 ·rw[Dp (by omega),Ag,if_pos h1,show (69665:Int)=((69665:Nat):Int) from rfl,Wx (k:=.i64) (by show _<2^63;omega) (by show _<2^63;omega),A2,C9 (by omega) (by omega)];rfl
 ·rw[Er (by omega),Ae,if_neg h1,A2,C9 (by omega) (by omega)];rfl
theorem Yhn {x:Nat}(hx:x<65536):Ar Zfb ((x:Int),0)=some (.inl ((Jf 8 x:Nat):Int)):=by
 refine Zu5 hx (fun n i hn hi=>?_) fun n=>rfl;have e:K5 .i64 (n:Int) 2=((2*n:Nat):Int):=by
  show IntKind.wrap _ _=_;rw[Yw (by omega) (by omega)];omega
 unfold Zfb;simp only[e];rw[A6 (by omega),Ag];unfold Mc;by_cases h1:2*n > 65535
 ·rw[Dp (by omega),Ag,if_pos h1,show (69665:Int)=((69665:Nat):Int) from rfl,Wx (k:=.i64) (by show _<2^63;omega) (by show _<2^63;omega),A2,C9 (by omega) (by omega)];rfl
 ·rw[Er (by omega),Ae,if_neg h1,A2,C9 (by omega) (by omega)];rfl
theorem Zu6 {l:List UInt8}{step:Int×Int->Option ((Int×Int) ⊕ (Int ⊕ Int))}(hs:∀(x i:Nat) (h:i<l.length),x<65536->step ((x:Int),(i:Int))=some (.inl (((Wh x l[i]:Nat):Int),((i+1:Nat):Int)))) (he:∀x:Int,step (x,(l.length:Int))=some (.inr (.inl x))):(Aq (Ar step (65535,0)) fun z=>some (Av .i64 z 65535))=some ((crc l:Nat):Int):=by
 rw[Jp (fun i=>(((crc (l.take i):Nat):Int),(i:Int))) l.length (.inl ((crc l:Nat):Int)) (fun i hi=>by rw[hs _ _ hi (Sj _),Zyx hi]) (by rw[he,Kic]) _ (by rw[Kra];rfl)];rw[A2,show (65535:Int)=((65535:Nat):Int) from rfl,Qm (k:=.i64) (by have:=Sj l;show _<2^63;omega) (by show _<2^63;omega),Nl (j:=16) rfl,Kuc (Sj l)]
theorem Ykw {l:List UInt8}(hl:l.length<=1048576000):Z5 l=some ((crc l:Nat):Int):=by
 refine Zu6 (fun x i h hx=>?_) fun x=>?_
 ·have hb:=B2 l[i];have hx2:=Zgr hx l[i];unfold Zfk;simp only;rw[A6 (by simp only[Aj];omega),Ag,B9 h,Ab,Ce,He (k:=.i64) (by show _<2^63;omega)];rw[show Br .i64 (l[i].toNat:Int) 8=((l[i].toNat*2^8:Nat):Int) from Tc (k:=.i64) (s:=8) (by decide) (by show _<2^63;omega),Wx (k:=.i64) (by show _<2^63;omega) (by show _<2^63;omega),show l[i].toNat*2^8=256*l[i].toNat by omega,Ylb hx2,A2,C9 (by omega) (by omega)];rfl
 ·unfold Zfk;simp only;rw[A3 (by simp only[Aj];omega),Ae]
theorem Yhc {l:List UInt8}(hl:l.length<=1048576000):Zex l=some ((crc l:Nat):Int):=by
 refine Zu6 (fun x i h hx=>?_) fun x=>?_
 ·have hb:=B2 l[i];have hx2:=Zgr hx l[i];have e:K5 .i64 256 (l[i].toNat:Int)=((256*l[i].toNat:Nat):Int):=by
   show IntKind.wrap _ _=_;rw[Yw (by omega) (by omega)];omega
  unfold Zfc;simp only;rw[A6 (by simp only[Aj];omega),Ag,B9 h,Ab,Ce,He (k:=.i64) (by show _<2^63;omega)];rw[e,Wx (k:=.i64) (by show _<2^63;omega) (by show _<2^63;omega),Yhn hx2,A2,C9 (by omega) (by omega)];rfl
 ·unfold Zfc;simp only;rw[A3 (by simp only[Aj];omega),Ae]
abbrev B7:=Int×Int×Int
abbrev Tab:=List Row×Int×List B7
def smT (B:Nat) (t:Tab):Prop:=t.1.length<=B/\(∀r∈t.1,smR B r)/\t.2.2.length<=B
theorem smT.mono {A B:Nat}{t:Tab}(h:smT A t) (hab:A<=B):smT B t:=⟨Kja h.1 hab,fun r hr=>(h.2.1 r hr).mono hab,Kja h.2.2 hab⟩
theorem Yci {t:Tab}(h:smT 1048576 t):Rq (t,t)=some true:=by
 have e1:Zh (t.1,t.1)=some true:=by
  have:Zh (t.1,t.1)=Sp U6 (t.1,t.1):=rfl;rw[this];exact Zby (by have:=h.1;omega) fun r hr=>Ych ((h.2.1 r hr).mono (by decide))
 have e2:Zg (t.2.2,t.2.2)=some true:=by
  have:Zg (t.2.2,t.2.2)=Sp Zf (t.2.2,t.2.2):=rfl;rw[this];exact Zby (by have:=h.2.2;omega) fun r hr=>by unfold Zf;simp only[E6,Ae]
 unfold Rq;simp only[e1,e2,Ab,Bd,Ae,E6]
def Zmg (m:Int) (e:Row) (m':Int):Prop:=∀(x:List Row×Int) (i:Nat),x.1.length<=4194304->i<x.1.length->x.1[i]? = some e->Zak x (m,(i:Int))=some (.inl (m',(i:Int)+1))
theorem Yip {x:List Row}{m:Int}(h0:0<=m) (hm:m<=4503599627370496) (hl:x.length<=1048577) (hr:∀r∈x,smR 1048576 r):∃m' x',Zp (x,m)=some (m',x')/\Zl (x',m)=some m'/\x'.length=x.length/\m<=m'/\m'<=m+4503599627370496:=by
 obtain⟨l',m',h1,h2,h3,h4,h5⟩:=Xe (H:=Zmg) (K:=4194304) (x:=x) (m0:=m) (step:=Vp) (by omega) (by omega) (by
  intro l k i hi hll hx hk1 hk2;obtain⟨a1,a2,a3⟩:=hr x[i] (Ktb hi);have hil:i<l.length:=by omega
  obtain⟨s1,hs1⟩:=Yis (m:=k) (by omega);obtain⟨m1,x1,b1,b2,b3,b4,b5⟩:=Zcv (x:=x[i].2.1.2) (m:=k+1+1) (by omega) (by omega) a2;obtain⟨m2,x2,c1,c2,c3,c4,c5⟩:=Zcv (x:=x[i].2.2.1.2) (m:=m1+1) (by omega) (by omega) a3;have ho:=Eq.refl (Vp (l,(k,(i:Int))))
  conv at ho=>rhs;simp (disch:=first|omega|(simp only[Zcp,Aj];omega)) only[Vp,A6,Ag,Gd,Mf,hx,Ab,D9,C9,hs1,Zip,Ziq,Hw,A4,b1,b3,c1,c3]
  refine⟨_,_,ho, ?_,by omega,by omega⟩;intro y j hyl hj hy;simp (disch:=first|omega|(simp only[Aj];omega)) only[Zak,A6,Ag,Gd,hy,Ab,C9,E6,Ae,hs1,Zt0,Bd,b2,A3,c2,Za0]) (by
  intro l k hll;simp only[Vp];rw[A3 (by simp only[Aj];omega),Ae])
 refine⟨m',l', ?_, ?_,h3,h4,by omega⟩
 ·unfold Zp;simp only[h1,A2,h3,Hw,A4]
 ·unfold Zl;simp only;rw[Ws (H:=Zmg) (m1:=m') (by omega) h2 (fun k k' i hi h=>h _ i (by simp only;omega) hi (Kr hi)) (by
   intro k;simp only[Zak];rw[A3 (by simp only[Aj];omega),Ae])]
  rfl
abbrev Mk:=Int×Int×Int
def HMk (m:Int) (e:Mk) (m':Int):Prop:=∀(x:List Mk×Int) (i:Nat),x.1.length<=4194304->i<x.1.length->x.1[i]? = some e->Zaj x (m,(i:Int))=some (.inl (m',(i:Int)+1))
theorem Yio {x:List Mk}{m:Int}(h0:0<=m) (hm:m<=9007199254740992) (hl:x.length<=1048577):∃m' x',Zo (x,m)=some (m',x')/\Zk (x',m)=some m'/\x'.length=x.length/\m<=m'/\m'<=m+4194304:=by
 obtain⟨l',m',h1,h2,h3,h4,h5⟩:=Xe (H:=HMk) (K:=3) (x:=x) (m0:=m) (step:=Vo) (by omega) (by omega) (by
  intro l k i hi hll hx hk1 hk2;have hil:i<l.length:=by omega
  have ho:=Eq.refl (Vo (l,(k,(i:Int))))
  conv at ho=>rhs;simp (disch:=first|omega|(simp only[Zcp,Aj];omega)) only[Vo,A6,Ag,Gd,Mf,hx,Ab,D9,C9,Zip,Ziq,Hw,A4]
  refine⟨_,_,ho, ?_,by omega,by omega⟩;intro y j hyl hj hy;simp (disch:=first|omega|(simp only[Aj];omega)) only[Zaj,A6,Ag,Gd,hy,Ab,C9,E6,Ae]) (by
  intro l k hll;simp only[Vo];rw[A3 (by simp only[Aj];omega),Ae])
 refine⟨m',l', ?_, ?_,h3,h4,by omega⟩
 ·unfold Zo;simp only[h1,A2,h3,Hw,A4]
 ·unfold Zk;simp only;rw[Ws (H:=HMk) (m1:=m') (by omega) h2 (fun k k' i hi h=>h _ i (by simp only;omega) hi (Kr hi)) (by
   intro k;simp only[Zaj];rw[A3 (by simp only[Aj];omega),Ae])]
  rfl
theorem Yir {t:Tab}{m:Int}(h:smT 1048576 t) (h0:0<=m) (hm:m<=1048576):∃m' x1 x2,Zq (t,m)=some (m',(x1,x2))/\U7 ((x1,(t.2.1,x2)),m)=some m'/\x1.length=t.1.length/\x2.length=t.2.2.length/\m<=m'/\m'<=9007199254740992:=by
 obtain⟨m1,x1,a1,a2,a3,a4,a5⟩:=Yip (x:=t.1) (m:=m) (by omega) (by omega) (by have:=h.1;omega) h.2.1;obtain⟨m2,x2,b1,b2,b3,b4,b5⟩:=Yio (x:=t.2.2) (m:=m1) (by omega) (by omega) (by have:=h.2.2;omega);refine⟨m2,x1,x2, ?_, ?_,a3,b3,by omega,by omega⟩
 ·unfold Zq;simp only[a1,Ab,a3,Hw,A4,b1,b3]
 ·unfold U7;simp only[a2,Ab,b2];rw[A3 (by omega),Ae,A3 (by omega),Ae]
def Ns {α:Type}(ok:α->Bool) (lt:α->α->Bool) (l:List α) (i:Nat):Bool:=match l[i]? with
 | none=>true
 | some y=>ok y&&(match i with
  | 0=>true
  | j+1=>match l[j]? with
   | some x=>lt x y
   | none=>true)
def Gt {α:Type}(ok:α->Bool) (lt:α->α->Bool) (l:List α):Bool:=(List.range l.length).all (Ns ok lt l)
theorem Zbi {α:Type}{ok:α->Bool}{lt:α->α->Bool}{l:List α}{step:Int->Option (Int ⊕ (Unit ⊕ Bool))}
  (hs:∀i,i<l.length->step (i:Int)=some (if Ns ok lt l i=true then .inl ((i:Int)+1) else .inr (.inr false)))
  (he:step (l.length:Int)=some (.inr (.inl ()))):Ar step 0=some (if Gt ok lt l=true then .inl () else .inr false):=by
 obtain⟨r,h1,rfl⟩:=Jq (step:=step) (fun i s=>s=(i:Int)/\∀j,j<i->Ns ok lt l j=true) l.length (fun r=>r=if Gt ok lt l=true then .inl () else .inr false) (by
  rintro i s hi ⟨rfl,h⟩;rw[hs i hi];by_cases hc:Ns ok lt l i=true
  ·left;refine⟨_,by rw[if_pos hc],by omega,fun j hj=>?_⟩;rcases Nat.lt_succ_iff_lt_or_eq.1 hj with a|rfl
   ·exact h j a
   ·exact hc
  ·right;refine⟨_,by rw[if_neg hc], ?_⟩;rw[if_neg];intro k;exact hc (Kma.1 k i (Kub.2 hi))) (by
  rintro s ⟨rfl,h⟩;refine⟨_,he, ?_⟩;rw[if_pos];exact Kma.2 fun j hj=>h j (Kub.1 hj)) 0 ⟨rfl,fun j hj=>by omega⟩
 exact h1
def Lo (x y:Row):Bool:=sLt x.1 y.1
def Gy (m:B7):Bool:=decide (1<=m.1/\m.1<=9)&&(decide (0<=m.2.1/\m.2.1<=65535)&&decide (0<=m.2.2/\m.2.2<=6))
def Ok (x y:B7):Bool:=decide (x.1<y.1)
def Dh (t:Tab):Bool:=Gt C3 Lo t.1&&(Gt Gy Ok t.2.2&&(decide (t.1.length<=8)&&decide (0<=t.2.1/\t.2.1<=7)))
theorem Wc {α:Type}{ok:α->Bool}{lt:α->α->Bool}{l:List α}(h:0<l.length):Ns ok lt l 0=ok l[0]:=by
 unfold Ns;rw[Kr h];simp
theorem Sf {α:Type}{ok:α->Bool}{lt:α->α->Bool}{l:List α}{j:Nat}(h:j+1<l.length):Ns ok lt l (j+1)=(ok l[j+1]&&lt l[j] l[j+1]):=by
 unfold Ns;rw[Kr h];simp only[Kr (show j<l.length by omega)]
theorem Ykx {t:Tab}(h:smT 1048576 t):Ar (Zaq t) 0=some (if Gt C3 Lo t.1=true then .inl () else .inr false):=by
 refine Zbi (fun i hi=>?_) ?_
 ·have hl:=h.1;have e:Pr ((t.1[i]).1,(((t.1[i]).2.1.1,(t.1[i]).2.1.2),(((t.1[i]).2.2.1.1,(t.1[i]).2.2.1.2),((t.1[i]).2.2.2.1,(t.1[i]).2.2.2.2))))=some (C3 t.1[i]):=Zt7 (r:=t.1[i]) (by have:=(h.2.1 _ (Ktb hi)).1;omega);unfold Zaq;rw[A6 (by simp only[Aj];omega),Ag,B9 hi,Ab,e,Ab];cases i with
  | zero =>
   rw[Wc hi];cases hr:C3 t.1[0] with
   | false=>rfl
   | true=>rfl
  | succ j =>
   rw[Sf hi];cases hr:C3 t.1[j+1] with
   | false=>rfl
   | true =>
    rw[Bd,Ae,Dp (by omega),Ag,show Ax .i64 ((j+1:Nat):Int) 1=(j:Int) from by rw[D7 (by omega) (by omega)];omega,B9 (show j<t.1.length by omega),Ab,Ab];unfold Lo;cases sLt t.1[j].1 t.1[j+1].1 with
    | false=>rfl
    | true=>rw[Bd,Ae,C9 (by omega) (by omega)];rfl
 ·have hl:=h.1;unfold Zaq;rw[A3 (by simp only[Aj];omega),Ae]
theorem Yhd {t:Tab}(h:smT 1048576 t):Ar (Zag t) 0=some (if Gt C3 Lo t.1=true then .inl () else .inr false):=by
 refine Zbi (fun i hi=>?_) ?_
 ·have hl:=h.1;have e:L0 ((t.1[i]).1,(((t.1[i]).2.1.1,(t.1[i]).2.1.2),(((t.1[i]).2.2.1.1,(t.1[i]).2.2.1.2),((t.1[i]).2.2.2.1,(t.1[i]).2.2.2.2))))=some (C3 t.1[i]):=Zh3 (r:=t.1[i]) (by have:=(h.2.1 _ (Ktb hi)).1;omega);unfold Zag;rw[A6 (by simp only[Aj];omega),Ag,B9 hi,Ab,e,Ab];cases i with
  | zero =>
   rw[Wc hi];cases hr:C3 t.1[0] with
   | false=>rfl
   | true=>rfl
  | succ j =>
   rw[Sf hi];cases hr:C3 t.1[j+1] with
   | false=>rfl
   | true =>
    rw[Bd,Ae,Dp (by omega),Ag,show Ax .i64 ((j+1:Nat):Int) 1=(j:Int) from by rw[D7 (by omega) (by omega)];omega,B9 (show j<t.1.length by omega),Ab];unfold Lo;cases sLt t.1[j].1 t.1[j+1].1 with
    | false=>rfl
    | true=>rw[Bd,Ae,C9 (by omega) (by omega)];rfl
 ·have hl:=h.1;unfold Zag;rw[A3 (by simp only[Aj];omega),Ae]
theorem Yk4 (m:B7):Vd m=some (Gy m):=by
 unfold Vd Gy Vg;simp only[Ee,Ab,Si]
theorem Yky {t:Tab}(h:smT 1048576 t):Ar (Zar t) 0=some (if Gt Gy Ok t.2.2=true then .inl () else .inr false):=by
 refine Zbi (fun i hi=>?_) ?_
 ·have hl:=h.2.2;have e:Vd (t.2.2[i].1,(t.2.2[i].2.1,t.2.2[i].2.2))=some (Gy t.2.2[i]):=Yk4 _;unfold Zar;rw[A6 (by simp only[Aj];omega),Ag,B9 hi,Ab,e,Ab];cases i with
  | zero =>
   rw[Wc hi];cases hr:Gy t.2.2[0] with
   | false=>rfl
   | true=>rfl
  | succ j =>
   rw[Sf hi];cases hr:Gy t.2.2[j+1] with
   | false=>rfl
   | true =>
    rw[Bd,Ae,Dp (by omega),Ag,show Ax .i64 ((j+1:Nat):Int) 1=(j:Int) from by rw[D7 (by omega) (by omega)];omega,B9 (show j<t.2.2.length by omega),Ab,Ab];unfold Ok;by_cases hlt:t.2.2[j].1<t.2.2[j+1].1
    ·rw[Qn (by omega),Ae,C9 (by omega) (by omega),decide_eq_true hlt];rfl
    ·rw[Tb (by omega),Ag,decide_eq_false hlt];rfl
 ·have hl:=h.2.2;unfold Zar;rw[A3 (by simp only[Aj];omega),Ae]
theorem Yhe {t:Tab}(h:smT 1048576 t):Ar (Zah t) 0=some (if Gt Gy Ok t.2.2=true then .inl () else .inr false):=by
 refine Zbi (fun i hi=>?_) ?_
 ·have hl:=h.2.2;unfold Zah U3;rw[A6 (by simp only[Aj];omega),Ag,B9 hi,Ab];simp only[K6,Ab];have key:∀a b c:Bool,∀rest:Option (Int ⊕ (Unit ⊕ Bool)),cnd (Ah a) (some (.inr (.inr false))) (cnd (Ah b) (some (.inr (.inr false))) (cnd (Ah c) (some (.inr (.inr false))) rest))=if (a&&(b&&c))=true then rest else some (.inr (.inr false)):=by
   intro a b c rest;cases a<;>cases b<;>cases c<;>rfl
  rw[key];have mk:∀m:B7,(decide (1<=m.1/\m.1<=9)&&(decide (0<=m.2.1/\m.2.1<=65535)&&decide (0<=m.2.2/\m.2.2<=6)))=Gy m:=fun m=>rfl;cases i with
  | zero =>
   rw[Wc hi,mk];cases hr:Gy t.2.2[0] with
   | false=>rfl
   | true=>rfl
  | succ j =>
   rw[Sf hi,mk];cases hr:Gy t.2.2[j+1] with
   | false=>rfl
   | true =>
    rw[if_pos rfl,Dp (by omega),Ag,show Ax .i64 ((j+1:Nat):Int) 1=(j:Int) from by rw[D7 (by omega) (by omega)];omega,B9 (show j<t.2.2.length by omega),Ab];unfold Ok;by_cases hlt:t.2.2[j].1<t.2.2[j+1].1
    ·rw[Qn (by omega),Ae,C9 (by omega) (by omega),decide_eq_true hlt];rfl
    ·rw[Tb (by omega),Ag,decide_eq_false hlt];rfl
 ·have hl:=h.2.2;unfold Zah;rw[A3 (by simp only[Aj];omega),Ae]
theorem Zvd (a b:Bool) (n:Nat) (c:Int):(Aq (some (if a=true then .inl () else .inr false):Option (Unit ⊕ Bool)) fun _=>Aq (some (if b=true then .inl () else .inr false):Option (Unit ⊕ Bool)) fun _=>cnd (iLe (n:Int) 8) (some (decide (0<=c/\c<=7))) (some false))=some (a&&(b&&(decide (n<=8)&&decide (0<=c/\c<=7)))):=by
 rw[Si,show iLe (n:Int) 8=decide (n<=8) by simp only[iLe];rw[Klc];simp;omega];cases a<;>cases b<;>rfl
theorem Zt8 {t:Tab}(h:smT 1048576 t):Ry t=some (Dh t):=by
 unfold Ry Dh;rw[Ykx h,Yky h];simp only[Ee,Ab,Aj,Zvd]
theorem Zqp {t:Tab}(h:smT 1048576 t):Ro t=some (Dh t):=by
 unfold Ro Dh;rw[Yhd h,Yhe h];simp only[K6,Ab,Aj,Zvd]
end
end Go.Vs
