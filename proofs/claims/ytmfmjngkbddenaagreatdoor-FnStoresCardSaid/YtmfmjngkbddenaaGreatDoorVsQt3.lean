import Derived.Test.YtmfmjngkbddenaaGreatDoorVsW5
import Derived.Test.YtmfmjngkbddenaaGreatDoorVsQt2
set_option linter.all false
namespace Go.Vs
noncomputable section
theorem Yjm (ls:List (List UInt8)) (i:Nat):(ls.take i).flatten.length<=ls.flatten.length:=by
 have h:=congrArg (fun l:List (List UInt8)=>l.flatten.length) (Klc i ls);simp only[List.flatten_append,Kt]at h;omega
theorem Ypu {ls:List (List UInt8)}(hn:ls.length<4611686018427387904) (h:ls.flatten.length<=140737488355328):Fv ls=some ls.flatten:=by
 unfold Fv;rw[I0 (fun i=>((ls.take i).flatten,(i:Int))) ls.length (.inl ls.flatten)]
 ·rfl
 ·intro i hi;have e:(ls.take (i+1)).flatten=(ls.take i).flatten++ls[i]:=Yjn hi;have hr:=Yjm ls (i+1);rw[e,Kt]at hr;unfold Rz;rw[A5 (by simp only[Ak];omega),Ad];simp only[Br hi,Aa];rw[Bi (by omega),Az,e,C0 (by omega) (by omega)];rfl
 ·unfold Rz;rw[A6 (by simp only[Ak];omega),Ac,Kjc]
 ·rfl
theorem Zwx {a b:List UInt8}(hb:a.length+b.length<=140737488355328):Fv [a,b]=some (a++b):=by
 have e:[a,b].flatten=a++b:=by simp
 rw[Ypu (by simp only[Kf,Ki];omega) (by rw[e,Kt];omega),e]
theorem Ytu {x:List UInt8}(hl:x.length<=1048576):Zc0 x=some (Zh1 (G7 0 x)):=by
 unfold Zc0;obtain⟨r,h1,h2⟩:=Zxm (step:=Zjk x) (fun s=>∃(i:Nat) (ms:List Nat),s=(ms.map (fun (n:Nat)=>(n:Int)),(i:Int))/\i<=x.length/\ms.length<=i/\G7 0 x=(G7 0 (x.drop i)).map (ms++·)) (fun s=>x.length-s.2.toNat) (fun r=>Ao (some r) (fun (z1:(List Int))=>(some (z1,true)))=some (Zh1 (G7 0 x))) (by
  rintro s ⟨i,ms,rfl,hi,hm,hx⟩;unfold Zjk;simp only;by_cases hlt:i<x.length
  ·rw[A5 (by rw[Ak];omega),Ad,Yal (by omega) hlt,Aa];have hne:x.drop i≠[]:=by rw[Jp hlt];exact Kff _ _
   rw[Zbj (by omega) hne,show G6 0 (x.drop i)=dec (x.drop i) from rfl]at hx;cases hd:dec (x.drop i) with
   | none =>
    rw[hd]at hx;right;simp only[D2,A3,Ad];exact⟨_,rfl,by rw[hx];rfl⟩
   | some v =>
    obtain⟨n,k⟩:=v;rw[hd]at hx;have hk:=(Zfa hd).2.2;rw[Kma]at hk;left;simp only[D2,Au,Ac];rw[Bi (by rw[Ko];omega),Az];refine⟨_,rfl,⟨i+k,ms++[n], ?_,by omega,by rw[Kt,Kf,Ki];omega, ?_⟩, ?_⟩
    ·simp [Al]
    ·rw[hx];simp only[Option.map_map,Kad];congr 1;funext q;simp
    ·simp only;omega
  ·right;rw[A6 (by rw[Ak];omega),Ac];have e:x.drop i=[]:=Krd (by omega);rw[e,Zpr]at hx;refine⟨_,rfl, ?_⟩;rw[hx,Ar];simp [Zh1]) ([],0) ⟨0,[],rfl,Kca _,Kc _,by simp⟩
 rw[h1];exact h2
theorem Ybc {cs n:Nat}{step:Int->Option (Int ⊕ (Unit ⊕ (Int×Bool)))}(hs:∀i:Nat,i<256->step (i:Int)=some (if C4 cs i=some n then .inr (.inr ((i:Int),true)) else .inl ((i+1:Nat):Int))) (he:step 256=some (.inr (.inl ()))) :
  ∀(k b:Nat),b+k=256->Ao (Aw step (b:Int)) (fun (_:Unit)=>some ((0:Int),false))=some (bsR (Pd cs n k b))
 | 0,b,h=>by
  obtain rfl:b=256:=by omega
  rw[Hk (show step ((256:Nat):Int)=_ from he),Ar];rfl
 | k+1,b,h=>by
  have:=hs b (by omega);simp only[Pd];by_cases hb:C4 cs b=some n
  ·rw[if_pos hb]at this ⊢;rw[Hk this,L3];rfl
  ·rw[if_neg hb]at this ⊢;rw[Qz this];exact Ybc hs he k (b+1) (by omega)
theorem Yuj {cs n i:Nat}:cnd (bsR (C4 cs i)).2 (cnd (iEq (bsR (C4 cs i)).1 (n:Int)) (some (.inr (.inr ((i:Int),true)))) (some (.inl (Aj .i64 (i:Int) 1)))) (some (.inl (Aj .i64 (i:Int) 1)))=some (if C4 cs i=some n then .inr (.inr ((i:Int),true)) else .inl (Aj .i64 (i:Int) 1):Int ⊕ (Unit ⊕ (Int×Bool))):=by
 cases h:C4 cs i with
 | none=>rfl
 | some m =>
  simp only[bsR,Ad,Ka];by_cases hm:m=n
  ·rw[if_pos hm,hm,Ok,Ad]
  ·rw[if_neg hm,Dk (by omega),Ac]
theorem Ytt {cs n:Nat}(h1:1<=cs) (h4:cs<=4):Zcz ((cs:Int),(n:Int))=some (bsR (Wz cs n)):=by
 unfold Zcz Wz;refine Ybc (cs:=cs) (n:=n) (fun i hi=>?_) rfl 256 0 rfl;unfold Zrk;simp only;rw[A5 (by omega),Ad,Zpf h1 h4 hi,Aa,Yuj,C0 (by omega) (by omega)];rfl
def Put (o:Option (List UInt8×Bool)) (l:List UInt8) (p:Option (List UInt8)):Prop:=match p with
 | some b=>o=some (l++b,true)
 | none=>∃q,o=some (q,false)
theorem Ytp {l:List UInt8}{n:Nat}(hl:l.length<=1048576000):Put (X8 (l,(n:Int))) l (Od n):=by
 unfold X8 Od Ziz;simp only[E5,Aa];rw[Bi (by omega),Az];by_cases h1:n<128
 ·rw[decide_eq_true (by omega),Ad,if_pos h1,Bi (by simp only[Al,Kl];omega),Az,Fm];rfl
 rw[decide_eq_false (by omega),Ac,if_neg h1];by_cases h2:0x3041<=n/\n<=0x3093
 ·rw[decide_eq_true (by omega),Ad,Aa,if_pos h2];simp only[Au,Ac];rw[Bi (by simp only[Al,Kl];omega),Az,Eh (by omega) (by omega),C0 (by omega) (by omega),show (n:Int)-12353+161=((n-0x3041+0xa1:Nat):Int) by omega,Fm];rfl
 rw[decide_eq_false (by omega),Ac,if_neg h2];by_cases h3:0x30a1<=n/\n<=0x30f6
 ·rw[decide_eq_true (by omega),Ad,Aa,if_pos h3];simp only[Au,Ac];rw[Bi (by simp only[Al,Kl];omega),Az,Eh (by omega) (by omega),C0 (by omega) (by omega),show (n:Int)-12449+161=((n-0x30a1+0xa1:Nat):Int) by omega,Fm];rfl
 ·rw[decide_eq_false (by omega),Ac,Aa,if_neg h3];exact⟨_,rfl⟩
theorem Yur {n:Nat}(h:Cb n=true):sgn (n:Int)=true:=by simp [sgn,h]
theorem Yto {cs n:Nat}{l:List UInt8}(hc:cs<=5) (hn:Cb n=true) (hl:l.length<=1048576000):Put (Yl ((cs:Int),(l,(n:Int)))) l (E3 cs n):=by
 unfold Yl E3;simp only;by_cases h0:cs=0
 ·subst h0;rw[show iEq ((0:Nat):Int) 0=true from rfl,Ad,if_pos rfl,if_pos hn,Zhn (by omega),Aa,Zho,Aa,Yur hn];simp [Put]
 rw[Dk (by omega),Ac,if_neg h0];by_cases h5:cs=5
 ·subst h5;rw[show iEq ((5:Nat):Int) 5=true from rfl,Ad,if_pos rfl];have:=Ytp (l:=l) (n:=n) hl;cases hp:Od n with
  | none=>rw[hp]at this;obtain⟨q,e⟩:=this;rw[e];exact⟨q,rfl⟩
  | some b=>rw[hp]at this;rw[show X8 (l,(n:Int))=_ from this];rfl
 rw[Dk (by omega),Ac,if_neg h5,Ytt (by omega) (by omega),Aa];cases h:Wz cs n with
 | none =>
  simp only[bsR,A3,Ad];rw[Bi (by omega),Az];exact⟨_,rfl⟩
 | some b =>
  simp only[bsR,Au,Ac];rw[Bi (by omega),Az,Bi (by simp only[Al,Kl];omega),Az,Fm];rfl
theorem Zy4 {cs n:Nat}{b:List UInt8}(hc:cs<=5) (h:E3 cs n=some b):b.length<=4:=(Zou hc h []).2.2
theorem Yiv {cs:Nat}(hc:cs<=5){ns:List Nat}(hns:∀n∈ns,Cb n=true) (hl:ns.length<=1048576){P:Int×List UInt8×Int->Option (List UInt8×Bool)}(hP:∀{n:Nat}{l:List UInt8},Cb n=true->l.length<=1048576000->Put (P ((cs:Int),(l,(n:Int)))) l (E3 cs n))
  {step:List UInt8×Int->Option ((List UInt8×Int) ⊕ (List UInt8 ⊕ (List UInt8×Bool)))} (hs:∀(out:List UInt8) (i:Nat) (h:i<ns.length),step (out,(i:Int))=bnd (P ((cs:Int),(out,(ns[i]:Int)))) (fun z5=>cnd (Ag z5.2) (some (.inr (.inr ([],false)))) (some (.inl (z5.1,(Aj .i64 (i:Int) 1)))))) (he:∀out,step (out,(ns.length:Int))=some (.inr (.inl out))) :
  Ao (Aw step ([],0)) (fun z3=>some (z3,true))=some (Fh (Ek cs ns)):=by
 have key:∀(k i:Nat) (out:List UInt8),i+k=ns.length->out.length<=4*i->Ao (Aw step (out,(i:Int))) (fun z3=>some (z3,true))=some (Fh ((Ek cs (ns.drop i)).map (out++·))):=by
  intro k
  induction k with
  | zero =>
   intro i out hi ho;obtain rfl:i=ns.length:=by omega
   rw[Hk (he out),Ar,Kug];simp [Ek,Fh]
  | succ k ih =>
   intro i out hi ho;have hlt:i<ns.length:=by omega
   have h1:=hs out i hlt;have hp:=hP (n:=ns[i]) (l:=out) (hns _ (Kcb hlt)) (by omega);rw[Kwb hlt];simp only[Ek];cases hb:E3 cs ns[i] with
   | none =>
    rw[hb]at hp;obtain⟨q,e⟩:=hp;rw[e,Aa]at h1;simp only[A3,Ad]at h1;rw[Hk h1,L3];rfl
   | some b =>
    rw[hb]at hp;rw[show P ((cs:Int),(out,(ns[i]:Int)))=_ from hp,Aa]at h1;simp only[Au,Ac]at h1;rw[C0 (by omega) (by omega)]at h1;have hbl:=Zy4 hc hb;rw[Qz h1,show (i:Int)+1=((i+1:Nat):Int) by omega,ih (i+1) (out++b) (by omega) (by rw[Kt];omega)];cases Ek cs (ns.drop (i+1)) with
    | none=>rfl
    | some r=>simp [Fh]
 have:=key ns.length 0 [] (by omega) (by simp);rw[Kja]at this;rw[show (0:Int)=((0:Nat):Int) from rfl,this];cases Ek cs ns with
 | none=>rfl
 | some r=>simp
theorem Yut {x:List UInt8}{ns:List Nat}(h:G7 0 x=some ns):(∀n∈ns,Cb n=true)/\ns.length<=x.length:=by
 obtain⟨h1,h2⟩:=Zg3 (cs:=0) (by omega) _ (Kc _) h;exact⟨h2,Zos (by omega) h1⟩
def Mu (cs:Int) (x:List UInt8):Option (List UInt8):=if 0<=cs/\cs<=5 then Zk cs.toNat x else none
theorem Ytg {cs:Int}{x:List UInt8}(hl:x.length<=1048576):Zcu (cs,x)=some (Fh (Mu cs x)):=by
 unfold Zcu Rx Mu;simp only[Ytu hl,Aa,E5];by_cases hc:0<=cs/\cs<=5
 ·rw[decide_eq_true hc,Au,Ac,if_pos hc];obtain⟨c,rfl⟩:=Kpb hc.1;unfold Zk;rw[Knb];cases hs:G7 0 x with
  | none=>rfl
  | some ns =>
   obtain⟨a,b⟩:=Yut hs;simp only[Zh1,Au,Ac,Kra];refine Yiv (by omega) a (by omega) (P:=Yl) (fun hn hl=>Yto (by omega) hn hl) (fun out i hi=>?_) fun out=>?_
   ·unfold Zjg;simp only;rw[A5 (by simp only[Ak,Ko];omega),Ad,Br (by rw[Ko];exact hi),Aa];simp only[Kvg]
   ·unfold Zjg;simp only;rw[A6 (by simp only[Ak,Ko];omega),Ac]
 ·rw[decide_eq_false hc,A3,Ad,if_neg hc];rfl
end
end Go.Vs
