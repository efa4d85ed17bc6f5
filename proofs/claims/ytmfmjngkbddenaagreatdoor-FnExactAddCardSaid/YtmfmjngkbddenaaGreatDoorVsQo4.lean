import Derived.Test.YtmfmjngkbddenaaGreatDoorVsW5
import Derived.Test.YtmfmjngkbddenaaGreatDoorVsQo3
set_option linter.all false
namespace Go.Vs
noncomputable section
theorem Yp7 {n:Nat}(h:n<65536):(Ao (cnd (iGt ((2*n:Nat):Int) 65535) (some (.inl (O6 .i64 ((2*n:Nat):Int) 69665))) (some (.inl ((2*n:Nat):Int)))) fun z=>some z:Option Int)=some ((Ms n:Nat):Int):=by
 unfold Ms;by_cases h1:2*n > 65535
 ·rw[Dq (by omega),Ag,if_pos h1,show (69665:Int)=((69665:Nat):Int) from rfl,Xl (k:=.i64) (by show _<2^63;omega) (by show _<2^63;omega)];rfl
 ·rw[Ej (by omega),Ac,if_neg h1];rfl
theorem Zxh {ρ:Type}{step:Int×Int->Option ((Int×Int) ⊕ (Int ⊕ ρ))}{x:Nat}(hx:x<65536)
  (hs:∀n i:Nat,n<65536->i<8->step ((n:Int),(i:Int))=some (.inl (((Ms n:Nat):Int),((i+1:Nat):Int))))
  (he:∀n:Nat,step ((n:Int),8)=some (.inr (.inl (n:Int)))):Ar step ((x:Int),0)=some (.inl ((Jq 8 x:Nat):Int)):=by
 rw[Hv (fun i=>(((Jq i x:Nat):Int),(i:Int))) 8 (.inl ((Jq 8 x:Nat):Int))]
 ·intro i hi;rw[hs _ _ (Zpu hx) hi,<-Ya7]
 ·exact he _
 ·rfl
theorem Ypf {x:Nat}(hx:x<65536):Ar Zgt ((x:Int),0)=some (.inl ((Jq 8 x:Nat):Int)):=by
 refine Zxh hx (fun n i hn hi=>?_) fun n=>rfl;have e:B4 .i64 (n:Int) 1=((2*n:Nat):Int):=by
  rw[show B4 .i64 (n:Int) 1=((n*2^1:Nat):Int) from Zdn (k:=.i64) (s:=1) (by decide) (by show _<2^63;omega)];congr 1;omega
 have k:=Yp7 hn;unfold Zgt;simp only[e];rw[A4 (by omega),Ag];unfold Ms;by_cases h1:2*n > 65535
 ·rw[Dq (by omega),Ag,if_pos h1,show (69665:Int)=((69665:Nat):Int) from rfl,Xl (k:=.i64) (by show _<2^63;omega) (by show _<2^63;omega),A3,C8 (by omega) (by omega)];rfl
 ·rw[Ej (by omega),Ac,if_neg h1,A3,C8 (by omega) (by omega)];rfl
theorem Ylo {x:Nat}(hx:x<65536):Ar Zgi ((x:Int),0)=some (.inl ((Jq 8 x:Nat):Int)):=by
 refine Zxh hx (fun n i hn hi=>?_) fun n=>rfl;have e:Ld .i64 (n:Int) 2=((2*n:Nat):Int):=by
  show IntKind.wrap _ _=_;rw[Zi (by omega) (by omega)];omega
 unfold Zgi;simp only[e];rw[A4 (by omega),Ag];unfold Ms;by_cases h1:2*n > 65535
 ·rw[Dq (by omega),Ag,if_pos h1,show (69665:Int)=((69665:Nat):Int) from rfl,Xl (k:=.i64) (by show _<2^63;omega) (by show _<2^63;omega),A3,C8 (by omega) (by omega)];rfl
 ·rw[Ej (by omega),Ac,if_neg h1,A3,C8 (by omega) (by omega)];rfl
theorem Zxi {l:List UInt8}{step:Int×Int->Option ((Int×Int) ⊕ (Int ⊕ Int))}(hs:∀(x i:Nat) (h:i<l.length),x<65536->step ((x:Int),(i:Int))=some (.inl (((W5 x l[i]:Nat):Int),((i+1:Nat):Int)))) (he:∀x:Int,step (x,(l.length:Int))=some (.inr (.inl x))):(Ao (Ar step (65535,0)) fun z=>some (Ax .i64 z 65535))=some ((crc l:Nat):Int):=by
 rw[Hv (fun i=>(((crc (l.take i):Nat):Int),(i:Int))) l.length (.inl ((crc l:Nat):Int)) (fun i hi=>by rw[hs _ _ hi (Td _),Ya8 hi]) (by rw[he,Khc]) _ (by rw[Kxa];rfl)];rw[A3,show (65535:Int)=((65535:Nat):Int) from rfl,Q7 (k:=.i64) (by have:=Td l;show _<2^63;omega) (by show _<2^63;omega),Ml (j:=16) rfl,Kuc (Td l)]
theorem Zwj {l:List UInt8}(hl:l.length<=1048576000):V7 l=some ((crc l:Nat):Int):=by
 refine Zxi (fun x i h hx=>?_) fun x=>?_
 ·have hb:=Cn l[i];have hx2:=Zh0 hx l[i];unfold Zgu;simp only;rw[A4 (by simp only[Aj];omega),Ag,Bt h,Ab,Cm,Ju (k:=.i64) (by show _<2^63;omega)];rw[show B4 .i64 (l[i].toNat:Int) 8=((l[i].toNat*2^8:Nat):Int) from Zdn (k:=.i64) (s:=8) (by decide) (by show _<2^63;omega),Xl (k:=.i64) (by show _<2^63;omega) (by show _<2^63;omega),show l[i].toNat*2^8=256*l[i].toNat by omega,Ypf hx2,A3,C8 (by omega) (by omega)];rfl
 ·unfold Zgu;simp only;rw[A0 (by simp only[Aj];omega),Ac]
theorem Zs2 {l:List UInt8}(hl:l.length<=1048576000):Vn l=some ((crc l:Nat):Int):=by
 refine Zxi (fun x i h hx=>?_) fun x=>?_
 ·have hb:=Cn l[i];have hx2:=Zh0 hx l[i];have e:Ld .i64 256 (l[i].toNat:Int)=((256*l[i].toNat:Nat):Int):=by
   show IntKind.wrap _ _=_;rw[Zi (by omega) (by omega)];omega
  unfold Zgj;simp only;rw[A4 (by simp only[Aj];omega),Ag,Bt h,Ab,Cm,Ju (k:=.i64) (by show _<2^63;omega)];rw[e,Xl (k:=.i64) (by show _<2^63;omega) (by show _<2^63;omega),Ylo hx2,A3,C8 (by omega) (by omega)];rfl
 ·unfold Zgj;simp only;rw[A0 (by simp only[Aj];omega),Ac]
theorem Zlt (g p:Int) (r:Rec):(Rp g p r).length<=220:=by
 have h1:=Zl0 r.2.1;have h2:=Rz r.2.2.1;have h3:(Jk r.1 r.2.1 r.2.2.1 r.2.2.2.1).length<=200:=by
  unfold Jk;split
  ·omega
  split
  ·omega
  split
  ·simp
  ·simp
 unfold Rp;simp only[Ky,Kg,Zh];omega
theorem Zo1 {A:Type}{k n:Int}{R:Row}{key z:List UInt8}{PR:List UInt8×Row->Option (List UInt8)}{PT:List UInt8×List UInt8->Option (List UInt8)}(hok:Mo k R key n=true) (hz:z.length<=1048576) (hR:Cu R=true->PR (z,R)=some (z++Lu R)) (hT:Fd key=true->PT (z,key)=some (z++H3 key)) (K:List UInt8->Option A) :
  Ao (cnd (iEq k 1) (bnd (PR (z,(R.1,((R.2.1.1,R.2.1.2),((R.2.2.1.1,R.2.2.1.2),(R.2.2.2.1,R.2.2.2.2)))))) (fun z6=>(some (.inl z6)))) (cnd (iEq k 2) (bnd (PT (z,key)) (fun z6=>(some (.inl z6)))) (cnd (iEq k 3) (chk (A1 (z.length+1) 1) (some (.inl (Al z [(u8 (Ak .u8 n))])))) (some (.inl z))))) K=K (z++Jk k R key n):=by
 unfold Mo at hok;unfold Jk;simp only[O5];by_cases h1:k=1
 ·rw[if_pos h1]at hok ⊢;simp only[Ke]at hok;rw[decide_eq_true h1,Ag,show PR (z,(R.1,((R.2.1.1,R.2.1.2),((R.2.2.1.1,R.2.2.1.2),(R.2.2.2.1,R.2.2.2.2)))))=_ from hR hok.1.1,Ab,A3]
 rw[if_neg h1]at hok ⊢;rw[decide_eq_false h1,Ac];by_cases h2:k=2
 ·rw[if_pos h2]at hok ⊢;simp only[Ke]at hok;rw[decide_eq_true h2,Ag,hT hok.1.2,Ab,A3]
 rw[if_neg h2]at hok ⊢;rw[decide_eq_false h2,Ac];by_cases h3:k=3
 ·rw[if_pos h3]at hok ⊢;simp only[Ke,decide_eq_true_eq]at hok;rw[decide_eq_true h3,Ag,Bk (by omega),Av,A3,Mr hok.2.1];rfl
 rw[if_neg h3,decide_eq_false h3,Ac,A3,Kw]
theorem Zvd {q:List UInt8}{who code seq:Int}{PW:List UInt8×Int->Option (List UInt8)}{SM:List UInt8->Option Int}(hq:q.length<=1048576) (h1:0<=who) (h2:0<=code) (h3:0<=seq/\seq<=65535) (hW:∀{l:List UInt8}{n:Int},l.length<=1099511627776->0<=n->n<65536->PW (l,n)=some (l++B2 n)) (hS:∀{l:List UInt8},l.length<=1048576000->SM l=some ((crc l:Nat):Int)) :
  chk (A1 (q.length+2) 1) (bnd (PW ((Al q [(u8 (Ak .u8 who)),(u8 (Ak .u8 code))]),seq)) (fun z7=>(bnd (SM z7) (fun z8=>(bnd (PW (z7,z8)) (fun z9=>(some z9)))))))=some (Zfd (q++(yN who.toNat::yN code.toNat::B2 seq))):=by
 rw[Bk (by omega),Av,Mr h1,Mr h2,hW (by simp only[Al,Ky,Kg,Ki];omega) h3.1 (by omega),Ab];have hl:(Al q [yN who.toNat,yN code.toNat]++B2 seq).length<=1048600:=by simp only[Al,Ky,Kg,Ki,Zh];omega
 rw[hS (by omega),Ab,hW (by omega) (by omega) (by have:=Td (Al q [yN who.toNat,yN code.toNat]++B2 seq);omega),Ab];simp only[Al,Zfd,Kwa,Ks,Kp]
theorem Yl3 (x:Int):Md x=some (decide (0<=x/\x<=65535)):=by unfold Md;rw[En,Ab]
theorem Ylx (x:Int):L7 x=some (decide (0<=x/\x<=65535)):=by unfold L7;rw[Ix,Ab]
theorem Zwg {g p:Int}{r:Rec}(h:smC 1048576 r):Sk (g,(p,r))=some (Ek g p r):=by
 obtain⟨k,R,key,n,who,seq,code⟩:=r;have hR:=h.1;have hk:=h.2;simp only at hR hk;have e0:Sm (k,((R.1,((R.2.1.1,R.2.1.2),((R.2.2.1.1,R.2.2.1.2),(R.2.2.2.1,R.2.2.2.2)))),(key,(n,(who,(seq,code))))))=some (Gb (k,R,key,n,who,seq,code)):=Zwi (r:=(k,R,key,n,who,seq,code)) (by have:=hR.1;simp only;omega) (by simp only;omega);unfold Sk Ek;simp only[Sy,e0,Yl3,Ab];cases hok:Gb (k,R,key,n,who,seq,code) with
 | false=>rw[if_neg (fun q=>by cases q.1)];rfl
 | true =>
 rw[A5,Ac];by_cases hg:0<=g/\g<=65535
 case neg=>rw[decide_eq_false hg,if_neg (fun q=>hg ⟨q.2.1,q.2.2.1⟩)];rfl
 rw[decide_eq_true hg,A5,Ac];by_cases hp:0<=p/\p<=65535
 case neg=>rw[decide_eq_false hp,if_neg (fun q=>hp ⟨q.2.2.2.1,q.2.2.2.2⟩)];rfl
 rw[decide_eq_true hp,A5,Ac,if_pos ⟨rfl,hg.1,hg.2,hp.1,hp.2⟩];simp only[Gb,Ke]at hok;obtain⟨hb,hw⟩:=hok;have hw':=Zn1 hw;obtain⟨_,hk1,hk2⟩:=Zux hb [];rw[Rs (by simp) hg.1 (by omega),Ab,Rs (by simp [B2]) hp.1 (by omega),Ab,Bk (by simp [B2]),Av,Mr (show 0<=k by omega)];have hl:(Al ([]++B2 g++B2 p) [yN k.toNat]).length=5:=by simp [Al,B2]
 have hbl:(Jk k R key n).length<=200:=by
  have:=Zlt g p (k,R,key,n,who,seq,code);simp only[Rp,Ky,Kg,Zh]at this;have h1:=Zl0 R;have h2:=Rz key;unfold Jk;split
  ·omega
  split
  ·omega
  split
  ·simp
  ·simp
 rw[Zo1 (PR:=V4) (PT:=Qf) hb (by omega) (fun q=>by rw[You (by omega) hR,Un,if_pos q]) (fun q=>Zmd (by omega) (by omega))];rw[Zvd (PW:=Io) (SM:=V7) (by rw[Ky,hl];omega) hw'.1 hw'.2.2.2.2.1 ⟨hw'.2.2.1,hw'.2.2.2.1⟩ Rs Zwj];simp only[Rp,Al,Kwa,Ks,Kp]
theorem Zjj {g p:Int}{r:Rec}(h:smC 1048576 r):P5 (g,(p,r))=some (Ek g p r):=by
 obtain⟨k,R,key,n,who,seq,code⟩:=r;have hR:=h.1;have hk:=h.2;simp only at hR hk;have e0:Sc (k,((R.1,((R.2.1.1,R.2.1.2),((R.2.2.1.1,R.2.2.1.2),(R.2.2.2.1,R.2.2.2.2)))),(key,(n,(who,(seq,code))))))=some (Gb (k,R,key,n,who,seq,code)):=Zs0 (r:=(k,R,key,n,who,seq,code)) (by have:=hR.1;simp only;omega) (by simp only;omega);unfold P5 Ek;simp only[Sy,e0,Ylx,Ab];cases hok:Gb (k,R,key,n,who,seq,code) with
 | false=>rw[if_neg (fun q=>by cases q.1)];rfl
 | true =>
 rw[A5,Ac];by_cases hg:0<=g/\g<=65535
 case neg=>rw[decide_eq_false hg,if_neg (fun q=>hg ⟨q.2.1,q.2.2.1⟩)];rfl
 rw[decide_eq_true hg,A5,Ac];by_cases hp:0<=p/\p<=65535
 case neg=>rw[decide_eq_false hp,if_neg (fun q=>hp ⟨q.2.2.2.1,q.2.2.2.2⟩)];rfl
 rw[decide_eq_true hp,A5,Ac,if_pos ⟨rfl,hg.1,hg.2,hp.1,hp.2⟩];simp only[Gb,Ke]at hok;obtain⟨hb,hw⟩:=hok;have hw':=Zn1 hw;obtain⟨_,hk1,hk2⟩:=Zux hb [];rw[Q9 (by simp) hg.1 (by omega),Ab,Q9 (by simp [B2]) hp.1 (by omega),Ab,Bk (by simp [B2]),Av,Mr (show 0<=k by omega)];have hl:(Al ([]++B2 g++B2 p) [yN k.toNat]).length=5:=by simp [Al,B2]
 have hbl:(Jk k R key n).length<=200:=by
  have:=Zlt g p (k,R,key,n,who,seq,code);simp only[Rp,Ky,Kg,Zh]at this;have h1:=Zl0 R;have h2:=Rz key;unfold Jk;split
  ·omega
  split
  ·omega
  split
  ·simp
  ·simp
 rw[Zo1 (PR:=Vl) (PT:=L4) hb (by omega) (fun q=>by rw[Ylb (by omega) hR,Un,if_pos q]) (fun q=>Zjk (by omega) (by omega))];rw[Zvd (PW:=Im) (SM:=Vn) (by rw[Ky,hl];omega) hw'.1 hw'.2.2.2.2.1 ⟨hw'.2.2.1,hw'.2.2.2.1⟩ Q9 Zs2];simp only[Rp,Al,Kwa,Ks,Kp]
abbrev Cb:=Int×Int×Int
abbrev Tab:=List Row×Int×List Cb
def smT (B:Nat) (t:Tab):Prop:=t.1.length<=B/\(∀r∈t.1,smR B r)/\t.2.2.length<=B
theorem smT.mono {A B:Nat}{t:Tab}(h:smT A t) (hab:A<=B):smT B t:=⟨Kka h.1 hab,fun r hr=>(h.2.1 r hr).mono hab,Kka h.2.2 hab⟩
theorem Yqj {l:List Row}{k:Int}(h0:0<=k) (hk:k<=1048576) (hl:l.length<=9223372036854775807) (hr:∀r∈l,smR 9223372036854775807 r):SzR (Zal (l,k)) k (l.length<=1048576/\∀r∈l,smR 1048576 r):=by
 have e:Zal (l,k)=Yy Si (l,k):=rfl;rw[e];refine (Zm8 (B:=1048576) h0 hk (by omega) hl (P:=smR 1048576) fun e he k h0 hk=>Zxn h0 hk (hr e he)).mono (Klb _) fun h=>⟨by omega,h.2⟩
theorem Yql {t:Tab}{k:Int}(h0:0<=k) (hk:k<=1048576) (h:smT 9223372036854775807 t):SzR (Zan (t,k)) k (smT 1048576 t):=by
 unfold Zan;refine (SzR.seq h0 (Yqj h0 hk h.1 h.2.1) (Q:=t.2.2.length<=1048576) fun z hz hz2=>?_).mono (Klb _) fun h=>⟨h.1.1,h.1.2,h.2⟩;have e:A6 .i64 z (Ae t.2.2)=z-t.2.2.length:=Er (by have:=h.2.2;simp only[Aj];omega) (by simp only[Aj];omega);have e2:Zf3 (t.2.2,z)=cnd (iLt (A6 .i64 z (Ae t.2.2)) 0) (some (-1)) (some (A6 .i64 z (Ae t.2.2))):=rfl;refine SzR.one hz ?_;rw[e2];refine (SzR.sub (P:=True) hz (by omega) h.2.2 fun h=>by simp only[e];exact SzR.done).mono (Klb _) fun h=>by have:=h.1;omega
theorem Yqv {t:Tab}(h:smT 1048576 t):V2 t=some t:=by
 have e1:Zar t.1=some t.1:=by
  have:Zar t.1=R3 Qc ([],((0,[]),((0,[]),(0,false)))) 96 t.1:=rfl;rw[this];exact Y4 (by have:=h.1;omega) (by have:=h.1;omega) fun r hr=>Zx1 ((h.2.1 r hr).mono (by decide))
 have e2:Zaq t.2.2=some t.2.2:=by
  have:Zaq t.2.2=R3 Zf5 (0,(0,0)) 24 t.2.2:=rfl;rw[this];exact Y4 (by have:=h.2.2;omega) (by have:=h.2.2;omega) fun r hr=>rfl
 unfold V2;rw[e1,Ab,e2];rfl
theorem Ye8 {t:Tab}(h:smT 1048576 t):Vu (t,t)=some true:=by
 have e1:Z2 (t.1,t.1)=some true:=by
  have:Z2 (t.1,t.1)=Tj P7 (t.1,t.1):=rfl;rw[this];exact Zc2 (by have:=h.1;omega) fun r hr=>Zrk ((h.2.1 r hr).mono (by decide))
 have e2:Z0 (t.2.2,t.2.2)=some true:=by
  have:Z0 (t.2.2,t.2.2)=Tj Zz (t.2.2,t.2.2):=rfl;rw[this];exact Zc2 (by have:=h.2.2;omega) fun r hr=>by unfold Zz;simp only[Fo,Ac]
 unfold Vu;simp only[e1,e2,Ab,A5,Ac,Fo]
def Zoh (m:Int) (e:Row) (m':Int):Prop:=∀(x:List Row×Int) (i:Nat),x.1.length<=4194304->i<x.1.length->x.1[i]? = some e->Zbi x (m,(i:Int))=some (.inl (m',(i:Int)+1))
theorem Ymv {x:List Row}{m:Int}(h0:0<=m) (hm:m<=4503599627370496) (hl:x.length<=1048577) (hr:∀r∈x,smR 1048576 r):∃m' x',Zaf (x,m)=some (m',x')/\Z8 (x',m)=some m'/\x'.length=x.length/\m<=m'/\m'<=m+4503599627370496:=by
 obtain⟨l',m',h1,h2,h3,h4,h5⟩:=X3 (H:=Zoh) (K:=4194304) (x:=x) (m0:=m) (step:=Wj) (by omega) (by omega) (by
  intro l k i hi hll hx hk1 hk2;obtain⟨a1,a2,a3⟩:=hr x[i] (Khb hi);have hil:i<l.length:=by omega
  obtain⟨s1,hs1⟩:=Ymx (m:=k) (by omega);obtain⟨m1,x1,b1,b2,b3,b4,b5⟩:=Xz (x:=x[i].2.1.2) (m:=k+1+1) (by omega) (by omega) a2;obtain⟨m2,x2,c1,c2,c3,c4,c5⟩:=Xz (x:=x[i].2.2.1.2) (m:=m1+1) (by omega) (by omega) a3;have ho:=Eq.refl (Wj (l,(k,(i:Int))))
  conv at ho=>rhs;simp (disch:=first|omega|(simp only[Zdv,Aj];omega)) only[Wj,A4,Ag,Gr,Mz,hx,Ab,D9,C8,hs1,Zj8,Zj9,Fs,Av,b1,b3,c1,c3]
  refine⟨_,_,ho, ?_,by omega,by omega⟩;intro y j hyl hj hy;simp (disch:=first|omega|(simp only[Aj];omega)) only[Zbi,A4,Ag,Gr,hy,Ab,C8,Fo,Ac,hs1,Zl8,A5,b2,A0,c2,Zb1]) (by
  intro l k hll;simp only[Wj];rw[A0 (by simp only[Aj];omega),Ac])
 refine⟨m',l', ?_, ?_,h3,h4,by omega⟩
 ·unfold Zaf;simp only[h1,A3,h3,Fs,Av]
 ·unfold Z8;simp only;rw[Xf (H:=Zoh) (m1:=m') (by omega) h2 (fun k k' i hi h=>h _ i (by simp only;omega) hi (Kq hi)) (by
   intro k;simp only[Zbi];rw[A0 (by simp only[Aj];omega),Ac])]
  rfl
abbrev Mk:=Int×Int×Int
def HMk (m:Int) (e:Mk) (m':Int):Prop:=∀(x:List Mk×Int) (i:Nat),x.1.length<=4194304->i<x.1.length->x.1[i]? = some e->Zbh x (m,(i:Int))=some (.inl (m',(i:Int)+1))
theorem Ymt {x:List Mk}{m:Int}(h0:0<=m) (hm:m<=9007199254740992) (hl:x.length<=1048577):∃m' x',Zad (x,m)=some (m',x')/\Z7 (x',m)=some m'/\x'.length=x.length/\m<=m'/\m'<=m+4194304:=by
 obtain⟨l',m',h1,h2,h3,h4,h5⟩:=X3 (H:=HMk) (K:=3) (x:=x) (m0:=m) (step:=Wi) (by omega) (by omega) (by
  intro l k i hi hll hx hk1 hk2;have hil:i<l.length:=by omega
  have ho:=Eq.refl (Wi (l,(k,(i:Int))))
  conv at ho=>rhs;simp (disch:=first|omega|(simp only[Zdv,Aj];omega)) only[Wi,A4,Ag,Gr,Mz,hx,Ab,D9,C8,Zj8,Zj9,Fs,Av]
  refine⟨_,_,ho, ?_,by omega,by omega⟩;intro y j hyl hj hy;simp (disch:=first|omega|(simp only[Aj];omega)) only[Zbh,A4,Ag,Gr,hy,Ab,C8,Fo,Ac]) (by
  intro l k hll;simp only[Wi];rw[A0 (by simp only[Aj];omega),Ac])
 refine⟨m',l', ?_, ?_,h3,h4,by omega⟩
 ·unfold Zad;simp only[h1,A3,h3,Fs,Av]
 ·unfold Z7;simp only;rw[Xf (H:=HMk) (m1:=m') (by omega) h2 (fun k k' i hi h=>h _ i (by simp only;omega) hi (Kq hi)) (by
   intro k;simp only[Zbh];rw[A0 (by simp only[Aj];omega),Ac])]
  rfl
theorem Zt2 {c:Ca}{m:Int}(h0:0<=m) (hm:m<=1152921504606846976) (hl:c.2.length<=1048576):∃m' x',P9 (c,m)=some (m',x')/\x'.length=c.2.length/\m<=m'/\m'<=m+1048576:=by
 obtain⟨m1,x1,a1,a2,a3,a4,a5⟩:=Xz (x:=c.2) h0 hm hl;refine⟨m1,x1, ?_,a3,a4,a5⟩;unfold P9;simp only[a1,Ab,a3,Fs,Av]
theorem Ymu {r:Rec}{m:Int}(h:smC 1048576 r) (h0:0<=m) (hm:m<=576460752303423488):∃m' x y,Zae (r,m)=some (m',(x,y))/\x.length=r.2.1.2.1.2.length/\y.length=r.2.1.2.2.1.2.length/\m<=m':=by
 obtain⟨m1,x1,a1,a3,a4,a5⟩:=Zt2 (c:=r.2.1.2.1) (m:=m) (by omega) (by omega) h.1.2.1;obtain⟨m2,x2,b1,b3,b4,b5⟩:=Zt2 (c:=r.2.1.2.2.1) (m:=m1) (by omega) (by omega) h.1.2.2;refine⟨m2,x1,x2, ?_,a3,b3,by omega⟩;have e:Vx (r.2.1,m)=some (m2,(x1,x2)):=by
  unfold Vx;rw[show P9 ((r.2.1.2.1.1,r.2.1.2.1.2),m)=some (m1,x1) from a1,Ab];simp only[a3,Fs,Av];rw[show P9 ((r.2.1.2.2.1.1,r.2.1.2.2.1.2),m1)=some (m2,x2) from b1,Ab];simp only[b3,Fs,Av]
 unfold Zae;rw[show Vx ((r.2.1.1,((r.2.1.2.1.1,r.2.1.2.1.2),((r.2.1.2.2.1.1,r.2.1.2.2.1.2),(r.2.1.2.2.2.1,r.2.1.2.2.2.2)))),m)=some (m2,(x1,x2)) from e,Ab];simp only[a3,b3,Fs,Av]
def Og {α:Type}(ok:α->Bool) (lt:α->α->Bool) (l:List α) (i:Nat):Bool:=match l[i]? with
 | none=>true
 | some y=>ok y&&(match i with
  | 0=>true
  | j+1=>match l[j]? with
   | some x=>lt x y
   | none=>true)
def G6 {α:Type}(ok:α->Bool) (lt:α->α->Bool) (l:List α):Bool:=(List.range l.length).all (Og ok lt l)
theorem Zck {α:Type}{ok:α->Bool}{lt:α->α->Bool}{l:List α}{step:Int->Option (Int ⊕ (Unit ⊕ Bool))}
  (hs:∀i,i<l.length->step (i:Int)=some (if Og ok lt l i=true then .inl ((i:Int)+1) else .inr (.inr false)))
  (he:step (l.length:Int)=some (.inr (.inl ()))):Ar step 0=some (if G6 ok lt l=true then .inl () else .inr false):=by
 obtain⟨r,h1,rfl⟩:=M9 (step:=step) (fun i s=>s=(i:Int)/\∀j,j<i->Og ok lt l j=true) l.length (fun r=>r=if G6 ok lt l=true then .inl () else .inr false) (by
  rintro i s hi ⟨rfl,h⟩;rw[hs i hi];by_cases hc:Og ok lt l i=true
  ·left;refine⟨_,by rw[if_pos hc],by omega,fun j hj=>?_⟩;rcases Nat.lt_succ_iff_lt_or_eq.1 hj with a|rfl
   ·exact h j a
   ·exact hc
  ·right;refine⟨_,by rw[if_neg hc], ?_⟩;rw[if_neg];intro k;exact hc (Koa.1 k i (Kvb.2 hi))) (by
  rintro s ⟨rfl,h⟩;refine⟨_,he, ?_⟩;rw[if_pos];exact Koa.2 fun j hj=>h j (Kvb.1 hj)) 0 ⟨rfl,fun j hj=>by omega⟩
 exact h1
def Lv (x y:Row):Bool:=sLt x.1 y.1
def Hc (m:Cb):Bool:=decide (1<=m.1/\m.1<=9)&&(decide (0<=m.2.1/\m.2.1<=65535)&&decide (0<=m.2.2/\m.2.2<=6))
def Pf (x y:Cb):Bool:=decide (x.1<y.1)
def Ez (t:Tab):Bool:=G6 Cu Lv t.1&&(G6 Hc Pf t.2.2&&(decide (t.1.length<=8)&&decide (0<=t.2.1/\t.2.1<=7)))
theorem W0 {α:Type}{ok:α->Bool}{lt:α->α->Bool}{l:List α}(h:0<l.length):Og ok lt l 0=ok l[0]:=by
 unfold Og;rw[Kq h];simp
theorem Tb {α:Type}{ok:α->Bool}{lt:α->α->Bool}{l:List α}{j:Nat}(h:j+1<l.length):Og ok lt l (j+1)=(ok l[j+1]&&lt l[j] l[j+1]):=by
 unfold Og;rw[Kq h];simp only[Kq (show j<l.length by omega)]
theorem Yoy {t:Tab}(h:smT 1048576 t):Ar (Zbo t) 0=some (if G6 Cu Lv t.1=true then .inl () else .inr false):=by
 refine Zck (fun i hi=>?_) ?_
 ·have hl:=h.1;have e:Mb ((t.1[i]).1,(((t.1[i]).2.1.1,(t.1[i]).2.1.2),(((t.1[i]).2.2.1.1,(t.1[i]).2.2.1.2),((t.1[i]).2.2.2.1,(t.1[i]).2.2.2.2))))=some (Cu t.1[i]):=Zme (r:=t.1[i]) (by have:=(h.2.1 _ (Khb hi)).1;omega);unfold Zbo;rw[A4 (by simp only[Aj];omega),Ag,Bt hi,Ab,e,Ab];cases i with
  | zero =>
   rw[W0 hi];cases hr:Cu t.1[0] with
   | false=>rfl
   | true=>rfl
  | succ j =>
   rw[Tb hi];cases hr:Cu t.1[j+1] with
   | false=>rfl
   | true =>
    rw[A5,Ac,Dq (by omega),Ag,show A6 .i64 ((j+1:Nat):Int) 1=(j:Int) from by rw[Er (by omega) (by omega)];omega,Bt (show j<t.1.length by omega),Ab,Ab];unfold Lv;cases sLt t.1[j].1 t.1[j+1].1 with
    | false=>rfl
    | true=>rw[A5,Ac,C8 (by omega) (by omega)];rfl
 ·have hl:=h.1;unfold Zbo;rw[A0 (by simp only[Aj];omega),Ac]
theorem Ylf {t:Tab}(h:smT 1048576 t):Ar (Zbc t) 0=some (if G6 Cu Lv t.1=true then .inl () else .inr false):=by
 refine Zck (fun i hi=>?_) ?_
 ·have hl:=h.1;have e:L5 ((t.1[i]).1,(((t.1[i]).2.1.1,(t.1[i]).2.1.2),(((t.1[i]).2.2.1.1,(t.1[i]).2.2.1.2),((t.1[i]).2.2.2.1,(t.1[i]).2.2.2.2))))=some (Cu t.1[i]):=Zjl (r:=t.1[i]) (by have:=(h.2.1 _ (Khb hi)).1;omega);unfold Zbc;rw[A4 (by simp only[Aj];omega),Ag,Bt hi,Ab,e,Ab];cases i with
  | zero =>
   rw[W0 hi];cases hr:Cu t.1[0] with
   | false=>rfl
   | true=>rfl
  | succ j =>
   rw[Tb hi];cases hr:Cu t.1[j+1] with
   | false=>rfl
   | true =>
    rw[A5,Ac,Dq (by omega),Ag,show A6 .i64 ((j+1:Nat):Int) 1=(j:Int) from by rw[Er (by omega) (by omega)];omega,Bt (show j<t.1.length by omega),Ab];unfold Lv;cases sLt t.1[j].1 t.1[j+1].1 with
    | false=>rfl
    | true=>rw[A5,Ac,C8 (by omega) (by omega)];rfl
 ·have hl:=h.1;unfold Zbc;rw[A0 (by simp only[Aj];omega),Ac]
theorem Yo6 (m:Cb):V8 m=some (Hc m):=by
 unfold V8 Hc Md;simp only[En,Ab,Oi]
theorem Yoz {t:Tab}(h:smT 1048576 t):Ar (Zbp t) 0=some (if G6 Hc Pf t.2.2=true then .inl () else .inr false):=by
 refine Zck (fun i hi=>?_) ?_
 ·have hl:=h.2.2;have e:V8 (t.2.2[i].1,(t.2.2[i].2.1,t.2.2[i].2.2))=some (Hc t.2.2[i]):=Yo6 _;unfold Zbp;rw[A4 (by simp only[Aj];omega),Ag,Bt hi,Ab,e,Ab];cases i with
  | zero =>
   rw[W0 hi];cases hr:Hc t.2.2[0] with
   | false=>rfl
   | true=>rfl
  | succ j =>
   rw[Tb hi];cases hr:Hc t.2.2[j+1] with
   | false=>rfl
   | true =>
    rw[A5,Ac,Dq (by omega),Ag,show A6 .i64 ((j+1:Nat):Int) 1=(j:Int) from by rw[Er (by omega) (by omega)];omega,Bt (show j<t.2.2.length by omega),Ab,Ab];unfold Pf;by_cases hlt:t.2.2[j].1<t.2.2[j+1].1
    ·rw[T3 (by omega),Ac,C8 (by omega) (by omega),decide_eq_true hlt];rfl
    ·rw[Xj (by omega),Ag,decide_eq_false hlt];rfl
 ·have hl:=h.2.2;unfold Zbp;rw[A0 (by simp only[Aj];omega),Ac]
theorem Ylg {t:Tab}(h:smT 1048576 t):Ar (Zbd t) 0=some (if G6 Hc Pf t.2.2=true then .inl () else .inr false):=by
 refine Zck (fun i hi=>?_) ?_
 ·have hl:=h.2.2;unfold Zbd L7;rw[A4 (by simp only[Aj];omega),Ag,Bt hi,Ab];simp only[Ix,Ab];have key:∀a b c:Bool,∀rest:Option (Int ⊕ (Unit ⊕ Bool)),cnd (Ah a) (some (.inr (.inr false))) (cnd (Ah b) (some (.inr (.inr false))) (cnd (Ah c) (some (.inr (.inr false))) rest))=if (a&&(b&&c))=true then rest else some (.inr (.inr false)):=by
   intro a b c rest;cases a<;>cases b<;>cases c<;>rfl
  rw[key];have mk:∀m:Cb,(decide (1<=m.1/\m.1<=9)&&(decide (0<=m.2.1/\m.2.1<=65535)&&decide (0<=m.2.2/\m.2.2<=6)))=Hc m:=fun m=>rfl;cases i with
  | zero =>
   rw[W0 hi,mk];cases hr:Hc t.2.2[0] with
   | false=>rfl
   | true=>rfl
  | succ j =>
   rw[Tb hi,mk];cases hr:Hc t.2.2[j+1] with
   | false=>rfl
   | true =>
    rw[if_pos rfl,Dq (by omega),Ag,show A6 .i64 ((j+1:Nat):Int) 1=(j:Int) from by rw[Er (by omega) (by omega)];omega,Bt (show j<t.2.2.length by omega),Ab];unfold Pf;by_cases hlt:t.2.2[j].1<t.2.2[j+1].1
    ·rw[T3 (by omega),Ac,C8 (by omega) (by omega),decide_eq_true hlt];rfl
    ·rw[Xj (by omega),Ag,decide_eq_false hlt];rfl
 ·have hl:=h.2.2;unfold Zbd;rw[A0 (by simp only[Aj];omega),Ac]
theorem Zxq (a b:Bool) (n:Nat) (c:Int):(Ao (some (if a=true then .inl () else .inr false):Option (Unit ⊕ Bool)) fun _=>Ao (some (if b=true then .inl () else .inr false):Option (Unit ⊕ Bool)) fun _=>cnd (iLe (n:Int) 8) (some (decide (0<=c/\c<=7))) (some false))=some (a&&(b&&(decide (n<=8)&&decide (0<=c/\c<=7)))):=by
 rw[Oi,show iLe (n:Int) 8=decide (n<=8) by simp only[iLe];rw[Klc];simp;omega];cases a<;>cases b<;>rfl
theorem Zmg {t:Tab}(h:smT 1048576 t):Mc t=some (Ez t):=by
 unfold Mc Ez;rw[Yoy h,Yoz h];simp only[En,Ab,Aj,Zxq]
theorem Zjm {t:Tab}(h:smT 1048576 t):L6 t=some (Ez t):=by
 unfold L6 Ez;rw[Ylf h,Ylg h];simp only[Ix,Ab,Aj,Zxq]
end
end Go.Vs
