import Derived.Test.YtmfmjngkbddenaaGreatDoorVsQt2
set_option linter.all false
namespace Go.Vs
noncomputable section
theorem Yj3 (ls:List (List UInt8)) (i:Nat):(ls.take i).flatten.length<=ls.flatten.length:=by
 have h:=congrArg (fun l:List (List UInt8)=>l.flatten.length) (Knc i ls);simp only[List.flatten_append,Kt]at h;omega
theorem Yqc {ls:List (List UInt8)}(hn:ls.length<4611686018427387904) (h:ls.flatten.length<=140737488355328):Fv ls=some ls.flatten:=by
 unfold Fv;rw[I3 (fun i=>((ls.take i).flatten,(i:Int))) ls.length (.inl ls.flatten)]
 ·rfl
 ·intro i hi;have e:(ls.take (i+1)).flatten=(ls.take i).flatten++ls[i]:=Yj4 hi;have hr:=Yj3 ls (i+1);rw[e,Kt]at hr;unfold Sa;rw[A3 (by simp only[Ak];omega),Ad];simp only[Bp hi,Aa];rw[Bj (by omega),Az,e,Cz (by omega) (by omega)];rfl
 ·unfold Sa;rw[A6 (by simp only[Ak];omega),Ac,Kkc]
 rfl
theorem Zw9 {a b:List UInt8}(hb:a.length+b.length<=140737488355328):Fv [a,b]=some (a++b):=by
 have e:[a,b].flatten=a++b:=by simp
 rw[Yqc (by simp only[Kf,Ki];omega) (by rw[e,Kt];omega),e]
theorem Yub {x:List UInt8}(hl:x.length<=1048576):Zc9 x=some (Zic (Ha 0 x)):=by
 unfold Zc9;obtain⟨r,h1,h2⟩:=Zx0 (step:=Zjv x) (fun s=>∃(i:Nat) (ms:List Nat),s=(ms.map (fun (n:Nat)=>(n:Int)),(i:Int))/\i<=x.length/\ms.length<=i/\Ha 0 x=(Ha 0 (x.drop i)).map (ms++·)) (fun s=>x.length-s.2.toNat) (fun r=>Ao (some r) (fun (z1:(List Int))=>(some (z1,true)))=some (Zic (Ha 0 x))) (by
  rintro s ⟨i,ms,rfl,hi,hm,hx⟩;unfold Zjv;simp only;by_cases hlt:i<x.length
  ·rw[A3 (by rw[Ak];omega),Ad,Yaz (by omega) hlt,Aa];have hne:x.drop i≠[]:=by rw[Jp hlt];exact Kff _ _
   rw[Zbs (by omega) hne,show G9 0 (x.drop i)=dec (x.drop i) from rfl]at hx;cases hd:dec (x.drop i) with
   | none =>
    rw[hd]at hx;right;simp only[D5,A5,Ad];exact⟨_,rfl,by rw[hx];rfl⟩
   | some v =>
    obtain⟨n,k⟩:=v;rw[hd]at hx;have hk:=(Zfj hd).2.2;rw[Kma]at hk;left;simp only[D5,Av,Ac];rw[Bj (by rw[Ko];omega),Az];refine⟨_,rfl,⟨i+k,ms++[n], ?_,by omega,by rw[Kt,Kf,Ki];omega, ?_⟩, ?_⟩
    ·simp [Al]
    ·rw[hx];simp only[Option.map_map,Kbd];congr 1;funext q;simp
    simp only;omega
  ·right;rw[A6 (by rw[Ak];omega),Ac];have e:x.drop i=[]:=Ktd (by omega);rw[e,Zp9]at hx;refine⟨_,rfl, ?_⟩;rw[hx,Ar];simp [Zic]) ([],0) ⟨0,[],rfl,Kda _,Kc _,by simp⟩
 rw[h1];exact h2
theorem Ybq {cs n:Nat}{step:Int->Option (Int ⊕ (Unit ⊕ (Int×Bool)))}(hs:∀i:Nat,i<256->step (i:Int)=some (if C7 cs i=some n then .inr (.inr ((i:Int),true)) else .inl ((i+1:Nat):Int))) (he:step 256=some (.inr (.inl ()))) :
  ∀(k b:Nat),b+k=256->Ao (Aw step (b:Int)) (fun (_:Unit)=>some ((0:Int),false))=some (bsR (Ph cs n k b))
 | 0,b,h=>by
  obtain rfl:b=256:=by omega
  rw[Ho (show step ((256:Nat):Int)=_ from he),Ar];rfl
 | k+1,b,h=>by
  have:=hs b (by omega);simp only[Ph];by_cases hb:C7 cs b=some n
  ·rw[if_pos hb]at this ⊢;rw[Ho this,L4];rfl
  rw[if_neg hb]at this ⊢;rw[Q4 this];exact Ybq hs he k (b+1) (by omega)
theorem Yuz {cs n i:Nat}:cnd (bsR (C7 cs i)).2 (cnd (iEq (bsR (C7 cs i)).1 (n:Int)) (some (.inr (.inr ((i:Int),true)))) (some (.inl (Aj .i64 (i:Int) 1)))) (some (.inl (Aj .i64 (i:Int) 1)))=some (if C7 cs i=some n then .inr (.inr ((i:Int),true)) else .inl (Aj .i64 (i:Int) 1):Int ⊕ (Unit ⊕ (Int×Bool))):=by
 cases h:C7 cs i with
 | none=>rfl
 | some m =>
  simp only[bsR,Ad,Ka];by_cases hm:m=n
  ·rw[if_pos hm,hm,V9,Ad]
  rw[if_neg hm,Dp (by omega),Ac]
theorem Yua {cs n:Nat}(h1:1<=cs) (h4:cs<=4):Zc8 ((cs:Int),(n:Int))=some (bsR (Xb cs n)):=by
 unfold Zc8 Xb;refine Ybq (cs:=cs) (n:=n) (fun i hi=>?_) rfl 256 0 rfl;unfold Zr3;simp only;rw[A3 (by omega),Ad,Zpw h1 h4 hi,Aa,Yuz,Cz (by omega) (by omega)];rfl
def Put (o:Option (List UInt8×Bool)) (l:List UInt8) (p:Option (List UInt8)):Prop:=match p with
 | some b=>o=some (l++b,true)
 | none=>∃q,o=some (q,false)
theorem Yt6 {l:List UInt8}{n:Nat}(hl:l.length<=1048576000):Put (Yk (l,(n:Int))) l (Oe n):=by
 unfold Yk Oe Zja;simp only[E4,Aa];rw[Bj (by omega),Az];by_cases h1:n<128
 ·rw[decide_eq_true (by omega),Ad,if_pos h1,Bj (by simp only[Al,Km];omega),Az,Fm];rfl
 rw[decide_eq_false (by omega),Ac,if_neg h1];by_cases h2:0x3041<=n/\n<=0x3093
 ·rw[decide_eq_true (by omega),Ad,Aa,if_pos h2];simp only[Av,Ac];rw[Bj (by simp only[Al,Km];omega),Az,Ei (by omega) (by omega),Cz (by omega) (by omega),show (n:Int)-12353+161=((n-0x3041+0xa1:Nat):Int) by omega,Fm];rfl
 rw[decide_eq_false (by omega),Ac,if_neg h2];by_cases h3:0x30a1<=n/\n<=0x30f6
 ·rw[decide_eq_true (by omega),Ad,Aa,if_pos h3];simp only[Av,Ac];rw[Bj (by simp only[Al,Km];omega),Az,Ei (by omega) (by omega),Cz (by omega) (by omega),show (n:Int)-12449+161=((n-0x30a1+0xa1:Nat):Int) by omega,Fm];rfl
 rw[decide_eq_false (by omega),Ac,Aa,if_neg h3];exact⟨_,rfl⟩
theorem Yu7 {n:Nat}(h:Cc n=true):sgn (n:Int)=true:=by simp [sgn,h]
theorem Yt5 {cs n:Nat}{l:List UInt8}(hc:cs<=5) (hn:Cc n=true) (hl:l.length<=1048576000):Put (Yx ((cs:Int),(l,(n:Int)))) l (E2 cs n):=by
 unfold Yx E2;simp only;by_cases h0:cs=0
 ·subst h0;rw[show iEq ((0:Nat):Int) 0=true from rfl,Ad,if_pos rfl,if_pos hn,Zhz (by omega),Aa,Zh0,Aa,Yu7 hn];simp [Put]
 rw[Dp (by omega),Ac,if_neg h0];by_cases h5:cs=5
 ·subst h5;rw[show iEq ((5:Nat):Int) 5=true from rfl,Ad,if_pos rfl];have:=Yt6 (l:=l) (n:=n) hl;cases hp:Oe n with
  | none=>rw[hp]at this;obtain⟨q,e⟩:=this;rw[e];exact⟨q,rfl⟩
  | some b=>rw[hp]at this;rw[show Yk (l,(n:Int))=_ from this];rfl
 rw[Dp (by omega),Ac,if_neg h5,Yua (by omega) (by omega),Aa];cases h:Xb cs n with
 | none =>
  simp only[bsR,A5,Ad];rw[Bj (by omega),Az];exact⟨_,rfl⟩
 | some b =>
  simp only[bsR,Av,Ac];rw[Bj (by omega),Az,Bj (by simp only[Al,Km];omega),Az,Fm];rfl
theorem Zzj {cs n:Nat}{b:List UInt8}(hc:cs<=5) (h:E2 cs n=some b):b.length<=4:=(Zpc hc h []).2.2
theorem Yjc {cs:Nat}(hc:cs<=5){ns:List Nat}(hns:∀n∈ns,Cc n=true) (hl:ns.length<=1048576){P:Int×List UInt8×Int->Option (List UInt8×Bool)}(hP:∀{n:Nat}{l:List UInt8},Cc n=true->l.length<=1048576000->Put (P ((cs:Int),(l,(n:Int)))) l (E2 cs n))
  {step:List UInt8×Int->Option ((List UInt8×Int) ⊕ (List UInt8 ⊕ (List UInt8×Bool)))} (hs:∀(out:List UInt8) (i:Nat) (h:i<ns.length),step (out,(i:Int))=bnd (P ((cs:Int),(out,(ns[i]:Int)))) (fun z5=>cnd (Ag z5.2) (some (.inr (.inr ([],false)))) (some (.inl (z5.1,(Aj .i64 (i:Int) 1)))))) (he:∀out,step (out,(ns.length:Int))=some (.inr (.inl out))) :
  Ao (Aw step ([],0)) (fun z3=>some (z3,true))=some (Fh (El cs ns)):=by
 have key:∀(k i:Nat) (out:List UInt8),i+k=ns.length->out.length<=4*i->Ao (Aw step (out,(i:Int))) (fun z3=>some (z3,true))=some (Fh ((El cs (ns.drop i)).map (out++·))):=by
  intro k
  induction k with
  | zero =>
   intro i out hi ho;obtain rfl:i=ns.length:=by omega
   rw[Ho (he out),Ar,Kvg];simp [El,Fh]
  | succ k ih =>
   intro i out hi ho;have hlt:i<ns.length:=by omega
   have h1:=hs out i hlt;have hp:=hP (n:=ns[i]) (l:=out) (hns _ (Kcb hlt)) (by omega);rw[Kwb hlt];simp only[El];cases hb:E2 cs ns[i] with
   | none =>
    rw[hb]at hp;obtain⟨q,e⟩:=hp;rw[e,Aa]at h1;simp only[A5,Ad]at h1;rw[Ho h1,L4];rfl
   | some b =>
    rw[hb]at hp;rw[show P ((cs:Int),(out,(ns[i]:Int)))=_ from hp,Aa]at h1;simp only[Av,Ac]at h1;rw[Cz (by omega) (by omega)]at h1;have hbl:=Zzj hc hb;rw[Q4 h1,show (i:Int)+1=((i+1:Nat):Int) by omega,ih (i+1) (out++b) (by omega) (by rw[Kt];omega)];cases El cs (ns.drop (i+1)) with
    | none=>rfl
    | some r=>simp [Fh]
 have:=key ns.length 0 [] (by omega) (by simp);rw[Kja]at this;rw[show (0:Int)=((0:Nat):Int) from rfl,this];cases El cs ns with
 | none=>rfl
 | some r=>simp
theorem Yu9 {x:List UInt8}{ns:List Nat}(h:Ha 0 x=some ns):(∀n∈ns,Cc n=true)/\ns.length<=x.length:=by
 obtain⟨h1,h2⟩:=Zhc (cs:=0) (by omega) _ (Kc _) h;exact⟨h2,Zpa (by omega) h1⟩
def Mw (cs:Int) (x:List UInt8):Option (List UInt8):=if 0<=cs/\cs<=5 then Zv cs.toNat x else none
theorem Ytx {cs:Int}{x:List UInt8}(hl:x.length<=1048576):Zc3 (cs,x)=some (Fh (Mw cs x)):=by
 unfold Zc3 R8 Mw;simp only[Yub hl,Aa,E4];by_cases hc:0<=cs/\cs<=5
 ·rw[decide_eq_true hc,Av,Ac,if_pos hc];obtain⟨c,rfl⟩:=Kob hc.1;unfold Zv;rw[Knb];cases hs:Ha 0 x with
  | none=>rfl
  | some ns =>
   obtain⟨a,b⟩:=Yu9 hs;simp only[Zic,Av,Ac,Kra];refine Yjc (by omega) a (by omega) (P:=Yx) (fun hn hl=>Yt5 (by omega) hn hl) (fun out i hi=>?_) fun out=>?_
   ·unfold Zjr;simp only;rw[A3 (by simp only[Ak,Ko];omega),Ad,Bp (by rw[Ko];exact hi),Aa];simp only[Kwg]
   unfold Zjr;simp only;rw[A6 (by simp only[Ak,Ko];omega),Ac]
 rw[decide_eq_false hc,A5,Ad,if_neg hc];rfl
end
end Go.Vs
