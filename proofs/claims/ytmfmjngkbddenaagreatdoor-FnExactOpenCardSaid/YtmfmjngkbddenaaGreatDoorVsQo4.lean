import Derived.Test.YtmfmjngkbddenaaGreatDoorVsW5
import Derived.Test.YtmfmjngkbddenaaGreatDoorVsQo3
set_option linter.all false
namespace Go.Vs
noncomputable section
theorem Yt4 {n:Nat}(h:n<65536):(Ao (cnd (iGt ((2*n:Nat):Int) 65535) (some (.inl (Qe .i64 ((2*n:Nat):Int) 69665))) (some (.inl ((2*n:Nat):Int)))) fun z=>some z:Option Int)=some ((Nv n:Nat):Int):=by
 unfold Nv;by_cases h1:2*n > 65535
 ·rw[Df (by omega),Ad,if_pos h1,show (69665:Int)=((69665:Nat):Int) from rfl,Zd (k:=.i64) (by show _<2^63;omega) (by show _<2^63;omega)];rfl
 ·rw[Dx (by omega),Ac,if_neg h1];rfl
theorem Yan {ρ:Type}{step:Int×Int->Option ((Int×Int) ⊕ (Int ⊕ ρ))}{x:Nat}(hx:x<65536)
  (hs:∀n i:Nat,n<65536->i<8->step ((n:Int),(i:Int))=some (.inl (((Nv n:Nat):Int),((i+1:Nat):Int))))
  (he:∀n:Nat,step ((n:Int),8)=some (.inr (.inl (n:Int)))):Ar step ((x:Int),0)=some (.inl ((Ld 8 x:Nat):Int)):=by
 rw[Gn (fun i=>(((Ld i x:Nat):Int),(i:Int))) 8 (.inl ((Ld 8 x:Nat):Int))]
 ·intro i hi;rw[hs _ _ (Zsf hx) hi,<-Yem]
 ·exact he _
 ·rfl
theorem Ytc {x:Nat}(hx:x<65536):Ar Zi8 ((x:Int),0)=some (.inl ((Ld 8 x:Nat):Int)):=by
 refine Yan hx (fun n i hn hi=>?_) fun n=>rfl;have e:B1 .i64 (n:Int) 1=((2*n:Nat):Int):=by
  rw[show B1 .i64 (n:Int) 1=((n*2^1:Nat):Int) from Vi (k:=.i64) (s:=1) (by decide) (by show _<2^63;omega)];congr 1;omega
 have k:=Yt4 hn;unfold Zi8;simp only[e];rw[A5 (by omega),Ad];unfold Nv;by_cases h1:2*n > 65535
 ·rw[Df (by omega),Ad,if_pos h1,show (69665:Int)=((69665:Nat):Int) from rfl,Zd (k:=.i64) (by show _<2^63;omega) (by show _<2^63;omega),Ax,C3 (by omega) (by omega)];rfl
 ·rw[Dx (by omega),Ac,if_neg h1,Ax,C3 (by omega) (by omega)];rfl
theorem Yo7 {x:Nat}(hx:x<65536):Ar Zix ((x:Int),0)=some (.inl ((Ld 8 x:Nat):Int)):=by
 refine Yan hx (fun n i hn hi=>?_) fun n=>rfl;have e:Md .i64 (n:Int) 2=((2*n:Nat):Int):=by
  show IntKind.wrap _ _=_;rw[Zbf (by omega) (by omega)];omega
 unfold Zix;simp only[e];rw[A5 (by omega),Ad];unfold Nv;by_cases h1:2*n > 65535
 ·rw[Df (by omega),Ad,if_pos h1,show (69665:Int)=((69665:Nat):Int) from rfl,Zd (k:=.i64) (by show _<2^63;omega) (by show _<2^63;omega),Ax,C3 (by omega) (by omega)];rfl
 ·rw[Dx (by omega),Ac,if_neg h1,Ax,C3 (by omega) (by omega)];rfl
theorem Yao {l:List UInt8}{step:Int×Int->Option ((Int×Int) ⊕ (Int ⊕ Int))}(hs:∀(x i:Nat) (h:i<l.length),x<65536->step ((x:Int),(i:Int))=some (.inl (((Yw x l[i]:Nat):Int),((i+1:Nat):Int)))) (he:∀x:Int,step (x,(l.length:Int))=some (.inr (.inl x))):(Ao (Ar step (65535,0)) fun z=>some (Aw .i64 z 65535))=some ((crc l:Nat):Int):=by
 rw[Gn (fun i=>(((crc (l.take i):Nat):Int),(i:Int))) l.length (.inl ((crc l:Nat):Int)) (fun i hi=>by rw[hs _ _ hi (Nw _),Yen hi]) (by rw[he,Kdc]) _ (by rw[Kba];rfl)];rw[Ax,show (65535:Int)=((65535:Nat):Int) from rfl,N4 (k:=.i64) (by have:=Nw l;show _<2^63;omega) (by show _<2^63;omega),L3 (j:=16) rfl,Kdd (Nw l)]
theorem Zg5 {l:List UInt8}(hl:l.length<=1048576000):Pg l=some ((crc l:Nat):Int):=by
 refine Yao (fun x i h hx=>?_) fun x=>?_
 ·have hb:=Bv l[i];have hx2:=Zkg hx l[i];unfold Zi9;simp only;rw[A5 (by simp only[Ai];omega),Ad,Bp h,Aa,Cq,Ik (k:=.i64) (by show _<2^63;omega)];rw[show B1 .i64 (l[i].toNat:Int) 8=((l[i].toNat*2^8:Nat):Int) from Vi (k:=.i64) (s:=8) (by decide) (by show _<2^63;omega),Zd (k:=.i64) (by show _<2^63;omega) (by show _<2^63;omega),show l[i].toNat*2^8=256*l[i].toNat by omega,Ytc hx2,Ax,C3 (by omega) (by omega)];rfl
 ·unfold Zi9;simp only;rw[A3 (by simp only[Ai];omega),Ac]
theorem Zf {l:List UInt8}(hl:l.length<=1048576000):T1 l=some ((crc l:Nat):Int):=by
 refine Yao (fun x i h hx=>?_) fun x=>?_
 ·have hb:=Bv l[i];have hx2:=Zkg hx l[i];have e:Md .i64 256 (l[i].toNat:Int)=((256*l[i].toNat:Nat):Int):=by
   show IntKind.wrap _ _=_;rw[Zbf (by omega) (by omega)];omega
  unfold Ziy;simp only;rw[A5 (by simp only[Ai];omega),Ad,Bp h,Aa,Cq,Ik (k:=.i64) (by show _<2^63;omega)];rw[e,Zd (k:=.i64) (by show _<2^63;omega) (by show _<2^63;omega),Yo7 hx2,Ax,C3 (by omega) (by omega)];rfl
 ·unfold Ziy;simp only;rw[A3 (by simp only[Ai];omega),Ac]
theorem Zn9 (g p:Int) (r:Rec):(Io g p r).length<=220:=by
 have h1:=Zoh r.2.1;have h2:=Tj r.2.2.1;have h3:(I0 r.1 r.2.1 r.2.2.1 r.2.2.2.1).length<=200:=by
  unfold I0;split
  ·omega
  split
  ·omega
  split
  ·simp
  ·simp
 unfold Io;simp only[Kz,Ke,Tv];omega
theorem Zrj {A:Type}{k n:Int}{R:Row}{key z:List UInt8}{PR:List UInt8×Row->Option (List UInt8)}{PT:List UInt8×List UInt8->Option (List UInt8)}(hok:I1 k R key n=true) (hz:z.length<=1048576) (hR:Ci R=true->PR (z,R)=some (z++J2 R)) (hT:Fw key=true->PT (z,key)=some (z++Hi key)) (K:List UInt8->Option A) :
  Ao (cnd (iEq k 1) (bnd (PR (z,(R.1,((R.2.1.1,R.2.1.2),((R.2.2.1.1,R.2.2.1.2),(R.2.2.2.1,R.2.2.2.2)))))) (fun z6=>(some (.inl z6)))) (cnd (iEq k 2) (bnd (PT (z,key)) (fun z6=>(some (.inl z6)))) (cnd (iEq k 3) (chk (A6 (z.length+1) 1) (some (.inl (Al z [(u8 (Ak .u8 n))])))) (some (.inl z))))) K=K (z++I0 k R key n):=by
 unfold I1 at hok;unfold I0;simp only[I4];by_cases h1:k=1
 ·rw[if_pos h1]at hok ⊢;simp only[Kd]at hok;rw[decide_eq_true h1,Ad,show PR (z,(R.1,((R.2.1.1,R.2.1.2),((R.2.2.1.1,R.2.2.1.2),(R.2.2.2.1,R.2.2.2.2)))))=_ from hR hok.1.1,Aa,Ax]
 rw[if_neg h1]at hok ⊢;rw[decide_eq_false h1,Ac];by_cases h2:k=2
 ·rw[if_pos h2]at hok ⊢;simp only[Kd]at hok;rw[decide_eq_true h2,Ad,hT hok.1.2,Aa,Ax]
 rw[if_neg h2]at hok ⊢;rw[decide_eq_false h2,Ac];by_cases h3:k=3
 ·rw[if_pos h3]at hok ⊢;simp only[Kd,decide_eq_true_eq]at hok;rw[decide_eq_true h3,Ad,Bq (by omega),Av,Ax,Nu hok.2.1];rfl
 rw[if_neg h3,decide_eq_false h3,Ac,Ax,Kq]
theorem Zx3 {q:List UInt8}{who code seq:Int}{PW:List UInt8×Int->Option (List UInt8)}{SM:List UInt8->Option Int}(hq:q.length<=1048576) (h1:0<=who) (h2:0<=code) (h3:0<=seq/\seq<=65535) (hW:∀{l:List UInt8}{n:Int},l.length<=1099511627776->0<=n->n<65536->PW (l,n)=some (l++Bn n)) (hS:∀{l:List UInt8},l.length<=1048576000->SM l=some ((crc l:Nat):Int)) :
  chk (A6 (q.length+2) 1) (bnd (PW ((Al q [(u8 (Ak .u8 who)),(u8 (Ak .u8 code))]),seq)) (fun z7=>(bnd (SM z7) (fun z8=>(bnd (PW (z7,z8)) (fun z9=>(some z9)))))))=some (Zav (q++(yN who.toNat::yN code.toNat::Bn seq))):=by
 rw[Bq (by omega),Av,Nu h1,Nu h2,hW (by simp only[Al,Kz,Ke,Ki];omega) h3.1 (by omega),Aa];have hl:(Al q [yN who.toNat,yN code.toNat]++Bn seq).length<=1048600:=by simp only[Al,Kz,Ke,Ki,Tv];omega
 rw[hS (by omega),Aa,hW (by omega) (by omega) (by have:=Nw (Al q [yN who.toNat,yN code.toNat]++Bn seq);omega),Aa];simp only[Al,Zav,Kxa,Kl,Kj]
theorem Ypn (x:Int):Ni x=some (decide (0<=x/\x<=65535)):=by unfold Ni;rw[D0,Aa]
theorem Ypg (x:Int):M9 x=some (decide (0<=x/\x<=65535)):=by unfold M9;rw[G9,Aa]
theorem Ysp {g p:Int}{r:Rec}(h:smC 1048576 r):Zcr (g,(p,r))=some (Fy g p r):=by
 obtain⟨k,R,key,n,who,seq,code⟩:=r;have hR:=h.1;have hk:=h.2;simp only at hR hk;have e0:Pf (k,((R.1,((R.2.1.1,R.2.1.2),((R.2.2.1.1,R.2.2.1.2),(R.2.2.2.1,R.2.2.2.2)))),(key,(n,(who,(seq,code))))))=some (C6 (k,R,key,n,who,seq,code)):=Zow (r:=(k,R,key,n,who,seq,code)) (by have:=hR.1;simp only;omega) (by simp only;omega);unfold Zcr Fy;simp only[Rp,e0,Ypn,Aa];cases hok:C6 (k,R,key,n,who,seq,code) with
 | false=>rw[if_neg (fun q=>by cases q.1)];rfl
 | true =>
 rw[Az,Ac];by_cases hg:0<=g/\g<=65535
 case neg=>rw[decide_eq_false hg,if_neg (fun q=>hg ⟨q.2.1,q.2.2.1⟩)];rfl
 rw[decide_eq_true hg,Az,Ac];by_cases hp:0<=p/\p<=65535
 case neg=>rw[decide_eq_false hp,if_neg (fun q=>hp ⟨q.2.2.2.1,q.2.2.2.2⟩)];rfl
 rw[decide_eq_true hp,Az,Ac,if_pos ⟨rfl,hg.1,hg.2,hp.1,hp.2⟩];simp only[C6,Kd]at hok;obtain⟨hb,hw⟩:=hok;have hw':=Zh6 hw;obtain⟨_,hk1,hk2⟩:=Zgk hb [];rw[Ta (by simp) hg.1 (by omega),Aa,Ta (by simp [Bn]) hp.1 (by omega),Aa,Bq (by simp [Bn]),Av,Nu (show 0<=k by omega)];have hl:(Al ([]++Bn g++Bn p) [yN k.toNat]).length=5:=by simp [Al,Bn]
 have hbl:(I0 k R key n).length<=200:=by
  have:=Zn9 g p (k,R,key,n,who,seq,code);simp only[Io,Kz,Ke,Tv]at this;have h1:=Zoh R;have h2:=Tj key;unfold I0;split
  ·omega
  split
  ·omega
  split
  ·simp
  ·simp
 rw[Zrj (PR:=Xp) (PT:=Ri) hb (by omega) (fun q=>by rw[Ysq (by omega) hR,V9,if_pos q]) (fun q=>Zov (by omega) (by omega))];rw[Zx3 (PW:=Ji) (SM:=Pg) (by rw[Kz,hl];omega) hw'.1 hw'.2.2.2.2.1 ⟨hw'.2.2.1,hw'.2.2.2.1⟩ Ta Zg5];simp only[Io,Al,Kxa,Kl,Kj]
theorem Zvh {g p:Int}{r:Rec}(h:smC 1048576 r):Xb (g,(p,r))=some (Fy g p r):=by
 obtain⟨k,R,key,n,who,seq,code⟩:=r;have hR:=h.1;have hk:=h.2;simp only at hR hk;have e0:Pc (k,((R.1,((R.2.1.1,R.2.1.2),((R.2.2.1.1,R.2.2.1.2),(R.2.2.2.1,R.2.2.2.2)))),(key,(n,(who,(seq,code))))))=some (C6 (k,R,key,n,who,seq,code)):=Zl9 (r:=(k,R,key,n,who,seq,code)) (by have:=hR.1;simp only;omega) (by simp only;omega);unfold Xb Fy;simp only[Rp,e0,Ypg,Aa];cases hok:C6 (k,R,key,n,who,seq,code) with
 | false=>rw[if_neg (fun q=>by cases q.1)];rfl
 | true =>
 rw[Az,Ac];by_cases hg:0<=g/\g<=65535
 case neg=>rw[decide_eq_false hg,if_neg (fun q=>hg ⟨q.2.1,q.2.2.1⟩)];rfl
 rw[decide_eq_true hg,Az,Ac];by_cases hp:0<=p/\p<=65535
 case neg=>rw[decide_eq_false hp,if_neg (fun q=>hp ⟨q.2.2.2.1,q.2.2.2.2⟩)];rfl
 rw[decide_eq_true hp,Az,Ac,if_pos ⟨rfl,hg.1,hg.2,hp.1,hp.2⟩];simp only[C6,Kd]at hok;obtain⟨hb,hw⟩:=hok;have hw':=Zh6 hw;obtain⟨_,hk1,hk2⟩:=Zgk hb [];rw[Sj (by simp) hg.1 (by omega),Aa,Sj (by simp [Bn]) hp.1 (by omega),Aa,Bq (by simp [Bn]),Av,Nu (show 0<=k by omega)];have hl:(Al ([]++Bn g++Bn p) [yN k.toNat]).length=5:=by simp [Al,Bn]
 have hbl:(I0 k R key n).length<=200:=by
  have:=Zn9 g p (k,R,key,n,who,seq,code);simp only[Io,Kz,Ke,Tv]at this;have h1:=Zoh R;have h2:=Tj key;unfold I0;split
  ·omega
  split
  ·omega
  split
  ·simp
  ·simp
 rw[Zrj (PR:=Xc) (PT:=M7) hb (by omega) (fun q=>by rw[Yor (by omega) hR,V9,if_pos q]) (fun q=>Zl8 (by omega) (by omega))];rw[Zx3 (PW:=Jg) (SM:=T1) (by rw[Kz,hl];omega) hw'.1 hw'.2.2.2.2.1 ⟨hw'.2.2.1,hw'.2.2.2.1⟩ Sj Zf];simp only[Io,Al,Kxa,Kl,Kj]
abbrev Cc:=Int×Int×Int
abbrev Tab:=List Row×Int×List Cc
def smT (B:Nat) (t:Tab):Prop:=t.1.length<=B/\(∀r∈t.1,smR B r)/\t.2.2.length<=B
theorem smT.mono {A B:Nat}{t:Tab}(h:smT A t) (hab:A<=B):smT B t:=⟨Kqa h.1 hab,fun r hr=>(h.2.1 r hr).mono hab,Kqa h.2.2 hab⟩
theorem Yim {t:Tab}(h:smT 1048576 t):Xj (t,t)=some true:=by
 have e1:Zbz (t.1,t.1)=some true:=by
  have:Zbz (t.1,t.1)=U3 Xi (t.1,t.1):=rfl;rw[this];exact Zey (by have:=h.1;omega) fun r hr=>Yik ((h.2.1 r hr).mono (by decide))
 have e2:Zby (t.2.2,t.2.2)=some true:=by
  have:Zby (t.2.2,t.2.2)=U3 Zbx (t.2.2,t.2.2):=rfl;rw[this];exact Zey (by have:=h.2.2;omega) fun r hr=>by unfold Zbx;simp only[Eo,Ac]
 unfold Xj;simp only[e1,e2,Aa,Az,Ac,Eo]
def Zqv (m:Int) (e:Row) (m':Int):Prop:=∀(x:List Row×Int) (i:Nat),x.1.length<=4194304->i<x.1.length->x.1[i]? = some e->Zda x (m,(i:Int))=some (.inl (m',(i:Int)+1))
theorem Yqe {x:List Row}{m:Int}(h0:0<=m) (hm:m<=4503599627370496) (hl:x.length<=1048577) (hr:∀r∈x,smR 1048576 r):∃m' x',Zca (x,m)=some (m',x')/\Zb5 (x',m)=some m'/\x'.length=x.length/\m<=m'/\m'<=m+4503599627370496:=by
 obtain⟨l',m',h1,h2,h3,h4,h5⟩:=Zv (H:=Zqv) (K:=4194304) (x:=x) (m0:=m) (step:=X9) (by omega) (by omega) (by
  intro l k i hi hll hx hk1 hk2;obtain⟨a1,a2,a3⟩:=hr x[i] (Kcb hi);have hil:i<l.length:=by omega
  obtain⟨s1,hs1⟩:=Yqg (m:=k) (by omega);obtain⟨m1,x1,b1,b2,b3,b4,b5⟩:=Zf1 (x:=x[i].2.1.2) (m:=k+1+1) (by omega) (by omega) a2;obtain⟨m2,x2,c1,c2,c3,c4,c5⟩:=Zf1 (x:=x[i].2.2.1.2) (m:=m1+1) (by omega) (by omega) a3;have ho:=Eq.refl (X9 (l,(k,(i:Int))))
  conv at ho=>rhs;simp (disch:=first|omega|(simp only[Zfu,Ai];omega)) only[X9,A5,Ad,Ha,N6,hx,Aa,Es,C3,hs1,Zmw,Zmx,H2,Av,b1,b3,c1,c3]
  refine⟨_,_,ho, ?_,by omega,by omega⟩;intro y j hyl hj hy;simp (disch:=first|omega|(simp only[Ai];omega)) only[Zda,A5,Ad,Ha,hy,Aa,C3,Eo,Ac,hs1,Zzh,Az,b2,A3,c2,Zdu]) (by
  intro l k hll;simp only[X9];rw[A3 (by simp only[Ai];omega),Ac])
 refine⟨m',l', ?_, ?_,h3,h4,by omega⟩
 ·unfold Zca;simp only[h1,Ax,h3,H2,Av]
 ·unfold Zb5;simp only;rw[Y8 (H:=Zqv) (m1:=m') (by omega) h2 (fun k k' i hi h=>h _ i (by simp only;omega) hi (Ku hi)) (by
   intro k;simp only[Zda];rw[A3 (by simp only[Ai];omega),Ac])]
  rfl
abbrev Mk:=Int×Int×Int
def HMk (m:Int) (e:Mk) (m':Int):Prop:=∀(x:List Mk×Int) (i:Nat),x.1.length<=4194304->i<x.1.length->x.1[i]? = some e->Zc9 x (m,(i:Int))=some (.inl (m',(i:Int)+1))
theorem Yqd {x:List Mk}{m:Int}(h0:0<=m) (hm:m<=9007199254740992) (hl:x.length<=1048577):∃m' x',Zb9 (x,m)=some (m',x')/\Zb4 (x',m)=some m'/\x'.length=x.length/\m<=m'/\m'<=m+4194304:=by
 obtain⟨l',m',h1,h2,h3,h4,h5⟩:=Zv (H:=HMk) (K:=3) (x:=x) (m0:=m) (step:=X8) (by omega) (by omega) (by
  intro l k i hi hll hx hk1 hk2;have hil:i<l.length:=by omega
  have ho:=Eq.refl (X8 (l,(k,(i:Int))))
  conv at ho=>rhs;simp (disch:=first|omega|(simp only[Zfu,Ai];omega)) only[X8,A5,Ad,Ha,N6,hx,Aa,Es,C3,Zmw,Zmx,H2,Av]
  refine⟨_,_,ho, ?_,by omega,by omega⟩;intro y j hyl hj hy;simp (disch:=first|omega|(simp only[Ai];omega)) only[Zc9,A5,Ad,Ha,hy,Aa,C3,Eo,Ac]) (by
  intro l k hll;simp only[X8];rw[A3 (by simp only[Ai];omega),Ac])
 refine⟨m',l', ?_, ?_,h3,h4,by omega⟩
 ·unfold Zb9;simp only[h1,Ax,h3,H2,Av]
 ·unfold Zb4;simp only;rw[Y8 (H:=HMk) (m1:=m') (by omega) h2 (fun k k' i hi h=>h _ i (by simp only;omega) hi (Ku hi)) (by
   intro k;simp only[Zc9];rw[A3 (by simp only[Ai];omega),Ac])]
  rfl
def Pv {α:Type}(ok:α->Bool) (lt:α->α->Bool) (l:List α) (i:Nat):Bool:=match l[i]? with
 | none=>true
 | some y=>ok y&&(match i with
  | 0=>true
  | j+1=>match l[j]? with
   | some x=>lt x y
   | none=>true)
def Hs {α:Type}(ok:α->Bool) (lt:α->α->Bool) (l:List α):Bool:=(List.range l.length).all (Pv ok lt l)
theorem Zed {α:Type}{ok:α->Bool}{lt:α->α->Bool}{l:List α}{step:Int->Option (Int ⊕ (Unit ⊕ Bool))}
  (hs:∀i,i<l.length->step (i:Int)=some (if Pv ok lt l i=true then .inl ((i:Int)+1) else .inr (.inr false)))
  (he:step (l.length:Int)=some (.inr (.inl ()))):Ar step 0=some (if Hs ok lt l=true then .inl () else .inr false):=by
 obtain⟨r,h1,rfl⟩:=Lm (step:=step) (fun i s=>s=(i:Int)/\∀j,j<i->Pv ok lt l j=true) l.length (fun r=>r=if Hs ok lt l=true then .inl () else .inr false) (by
  rintro i s hi ⟨rfl,h⟩;rw[hs i hi];by_cases hc:Pv ok lt l i=true
  ·left;refine⟨_,by rw[if_pos hc],by omega,fun j hj=>?_⟩;rcases Nat.lt_succ_iff_lt_or_eq.1 hj with a|rfl
   ·exact h j a
   ·exact hc
  ·right;refine⟨_,by rw[if_neg hc], ?_⟩;rw[if_neg];intro k;exact hc (Kua.1 k i (Kvb.2 hi))) (by
  rintro s ⟨rfl,h⟩;refine⟨_,he, ?_⟩;rw[if_pos];exact Kua.2 fun j hj=>h j (Kvb.1 hj)) 0 ⟨rfl,fun j hj=>by omega⟩
 exact h1
def Mv (x y:Row):Bool:=sLt x.1 y.1
def H0 (m:Cc):Bool:=decide (1<=m.1/\m.1<=9)&&(decide (0<=m.2.1/\m.2.1<=65535)&&decide (0<=m.2.2/\m.2.2<=6))
def Ql (x y:Cc):Bool:=decide (x.1<y.1)
def Dc (t:Tab):Bool:=Hs Ci Mv t.1&&(Hs H0 Ql t.2.2&&(decide (t.1.length<=8)&&decide (0<=t.2.1/\t.2.1<=7)))
theorem Yr {α:Type}{ok:α->Bool}{lt:α->α->Bool}{l:List α}(h:0<l.length):Pv ok lt l 0=ok l[0]:=by
 unfold Pv;rw[Ku h];simp
theorem Uw {α:Type}{ok:α->Bool}{lt:α->α->Bool}{l:List α}{j:Nat}(h:j+1<l.length):Pv ok lt l (j+1)=(ok l[j+1]&&lt l[j] l[j+1]):=by
 unfold Pv;rw[Ku h];simp only[Ku (show j<l.length by omega)]
theorem Ysu {t:Tab}(h:smT 1048576 t):Ar (Zdh t) 0=some (if Hs Ci Mv t.1=true then .inl () else .inr false):=by
 refine Zed (fun i hi=>?_) ?_
 ·have hl:=h.1;have e:Nf ((t.1[i]).1,(((t.1[i]).2.1.1,(t.1[i]).2.1.2),(((t.1[i]).2.2.1.1,(t.1[i]).2.2.1.2),((t.1[i]).2.2.2.1,(t.1[i]).2.2.2.2))))=some (Ci t.1[i]):=Zox (r:=t.1[i]) (by have:=(h.2.1 _ (Kcb hi)).1;omega);unfold Zdh;rw[A5 (by simp only[Ai];omega),Ad,Bp hi,Aa,e,Aa];cases i with
  | zero =>
   rw[Yr hi];cases hr:Ci t.1[0] with
   | false=>rfl
   | true=>rfl
  | succ j =>
   rw[Uw hi];cases hr:Ci t.1[j+1] with
   | false=>rfl
   | true =>
    rw[Az,Ac,Df (by omega),Ad,show A1 .i64 ((j+1:Nat):Int) 1=(j:Int) from by rw[D3 (by omega) (by omega)];omega,Bp (show j<t.1.length by omega),Aa,Aa];unfold Mv;cases sLt t.1[j].1 t.1[j+1].1 with
    | false=>rfl
    | true=>rw[Az,Ac,C3 (by omega) (by omega)];rfl
 ·have hl:=h.1;unfold Zdh;rw[A3 (by simp only[Ai];omega),Ac]
theorem Yow {t:Tab}(h:smT 1048576 t):Ar (Zc4 t) 0=some (if Hs Ci Mv t.1=true then .inl () else .inr false):=by
 refine Zed (fun i hi=>?_) ?_
 ·have hl:=h.1;have e:K3 ((t.1[i]).1,(((t.1[i]).2.1.1,(t.1[i]).2.1.2),(((t.1[i]).2.2.1.1,(t.1[i]).2.2.1.2),((t.1[i]).2.2.2.1,(t.1[i]).2.2.2.2))))=some (Ci t.1[i]):=Zfl (r:=t.1[i]) (by have:=(h.2.1 _ (Kcb hi)).1;omega);unfold Zc4;rw[A5 (by simp only[Ai];omega),Ad,Bp hi,Aa,e,Aa];cases i with
  | zero =>
   rw[Yr hi];cases hr:Ci t.1[0] with
   | false=>rfl
   | true=>rfl
  | succ j =>
   rw[Uw hi];cases hr:Ci t.1[j+1] with
   | false=>rfl
   | true =>
    rw[Az,Ac,Df (by omega),Ad,show A1 .i64 ((j+1:Nat):Int) 1=(j:Int) from by rw[D3 (by omega) (by omega)];omega,Bp (show j<t.1.length by omega),Aa];unfold Mv;cases sLt t.1[j].1 t.1[j+1].1 with
    | false=>rfl
    | true=>rw[Az,Ac,C3 (by omega) (by omega)];rfl
 ·have hl:=h.1;unfold Zc4;rw[A3 (by simp only[Ai];omega),Ac]
theorem Ys2 (m:Cc):Xt m=some (H0 m):=by
 unfold Xt H0 Ni;simp only[D0,Aa,Px]
theorem Ysv {t:Tab}(h:smT 1048576 t):Ar (Zdi t) 0=some (if Hs H0 Ql t.2.2=true then .inl () else .inr false):=by
 refine Zed (fun i hi=>?_) ?_
 ·have hl:=h.2.2;have e:Xt (t.2.2[i].1,(t.2.2[i].2.1,t.2.2[i].2.2))=some (H0 t.2.2[i]):=Ys2 _;unfold Zdi;rw[A5 (by simp only[Ai];omega),Ad,Bp hi,Aa,e,Aa];cases i with
  | zero =>
   rw[Yr hi];cases hr:H0 t.2.2[0] with
   | false=>rfl
   | true=>rfl
  | succ j =>
   rw[Uw hi];cases hr:H0 t.2.2[j+1] with
   | false=>rfl
   | true =>
    rw[Az,Ac,Df (by omega),Ad,show A1 .i64 ((j+1:Nat):Int) 1=(j:Int) from by rw[D3 (by omega) (by omega)];omega,Bp (show j<t.2.2.length by omega),Aa,Aa];unfold Ql;by_cases hlt:t.2.2[j].1<t.2.2[j+1].1
    ·rw[N5 (by omega),Ac,C3 (by omega) (by omega),decide_eq_true hlt];rfl
    ·rw[Qd (by omega),Ad,decide_eq_false hlt];rfl
 ·have hl:=h.2.2;unfold Zdi;rw[A3 (by simp only[Ai];omega),Ac]
theorem Yox {t:Tab}(h:smT 1048576 t):Ar (Zc5 t) 0=some (if Hs H0 Ql t.2.2=true then .inl () else .inr false):=by
 refine Zed (fun i hi=>?_) ?_
 ·have hl:=h.2.2;unfold Zc5 M9;rw[A5 (by simp only[Ai];omega),Ad,Bp hi,Aa];simp only[G9,Aa];have key:∀a b c:Bool,∀rest:Option (Int ⊕ (Unit ⊕ Bool)),cnd (Ah a) (some (.inr (.inr false))) (cnd (Ah b) (some (.inr (.inr false))) (cnd (Ah c) (some (.inr (.inr false))) rest))=if (a&&(b&&c))=true then rest else some (.inr (.inr false)):=by
   intro a b c rest;cases a<;>cases b<;>cases c<;>rfl
  rw[key];have mk:∀m:Cc,(decide (1<=m.1/\m.1<=9)&&(decide (0<=m.2.1/\m.2.1<=65535)&&decide (0<=m.2.2/\m.2.2<=6)))=H0 m:=fun m=>rfl;cases i with
  | zero =>
   rw[Yr hi,mk];cases hr:H0 t.2.2[0] with
   | false=>rfl
   | true=>rfl
  | succ j =>
   rw[Uw hi,mk];cases hr:H0 t.2.2[j+1] with
   | false=>rfl
   | true =>
    rw[if_pos rfl,Df (by omega),Ad,show A1 .i64 ((j+1:Nat):Int) 1=(j:Int) from by rw[D3 (by omega) (by omega)];omega,Bp (show j<t.2.2.length by omega),Aa];unfold Ql;by_cases hlt:t.2.2[j].1<t.2.2[j+1].1
    ·rw[N5 (by omega),Ac,C3 (by omega) (by omega),decide_eq_true hlt];rfl
    ·rw[Qd (by omega),Ad,decide_eq_false hlt];rfl
 ·have hl:=h.2.2;unfold Zc5;rw[A3 (by simp only[Ai];omega),Ac]
theorem Yav (a b:Bool) (n:Nat) (c:Int):(Ao (some (if a=true then .inl () else .inr false):Option (Unit ⊕ Bool)) fun _=>Ao (some (if b=true then .inl () else .inr false):Option (Unit ⊕ Bool)) fun _=>cnd (iLe (n:Int) 8) (some (decide (0<=c/\c<=7))) (some false))=some (a&&(b&&(decide (n<=8)&&decide (0<=c/\c<=7)))):=by
 rw[Px,show iLe (n:Int) 8=decide (n<=8) by simp only[iLe];rw[Ktc];simp;omega];cases a<;>cases b<;>rfl
theorem Zoz {t:Tab}(h:smT 1048576 t):Ng t=some (Dc t):=by
 unfold Ng Dc;rw[Ysu h,Ysv h];simp only[D0,Aa,Ai,Yav]
theorem Zma {t:Tab}(h:smT 1048576 t):M8 t=some (Dc t):=by
 unfold M8 Dc;rw[Yow h,Yox h];simp only[G9,Aa,Ai,Yav]
end
end Go.Vs
