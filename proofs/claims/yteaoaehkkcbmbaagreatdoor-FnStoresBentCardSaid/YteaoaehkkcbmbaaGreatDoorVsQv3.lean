import Derived.Test.YteaoaehkkcbmbaaGreatDoorVsQv2
set_option linter.all false
namespace Go.Vs
noncomputable section
def Zbu(a:List (List UInt8))(i:Nat):(a.take i).flatten.length<=a.flatten.length:=by
 have h:=DU (λl:List (List UInt8)=>l.flatten.length) (Jg i a);simp only[mf,Cb]at h;omega
def Zi1{a:List (List UInt8)}(d:a.length<4611686018427387904)(h:a.flatten.length<=140737488355328):Hg a=some a.flatten:=by
 unfold Hg;rw[HI (λi=>((a.take i).flatten,(i:Int))) a.length (.inl a.flatten)]
 .rfl
 .intro i b;have e:(a.take (i+1)).flatten=(a.take i).flatten++a[i]:=Zbv b;have c:=Zbu a (i+1);rw[e,Cb]at c;unfold PS;rw[Bw (by simp only[Av];omega),Ah];simp only[BK b,Ad];rw[B8 (by omega),AY,e,CS (by omega) (by omega)];rfl
 .unfold PS;rw[B1 (by simp only[Av];omega),Ag,Jd]
 rfl
def rG{a b:List UInt8}(c:a.length+b.length<=140737488355328):Hg [a,b]=some (a++b):=by
 have e:[a,b].flatten=a++b:=by simp
 rw[Zi1 (by simp only[Aq,Ay];omega) (by rw[e,Cb];omega),e]
def Zmq{x:List UInt8}(m:x.length<=1048576):XM x=some (cT (HM 0 x)):=by
 unfold XM;obtain⟨r,f,g⟩:=rl (step:=eV x) (λs=>∃(i:Nat) (c:List Nat),s=(c.map (λ(n:Nat)=>(n:Int)),(i:Int))/\i<=x.length/\c.length<=i/\HM 0 x=(HM 0 (x.drop i)).map (c++·)) (λs=>x.length-s.2.toNat) (λr=>AC (some r) (λ(j:(List Int))=>(some (j,true)))=some (cT (HM 0 x))) (by
  rintro s ⟨i,c,rfl,l,o,a⟩;unfold eV;simp only;by_cases b:i<x.length
  .rw[Bw (by rw[Av];omega),Ah,uZ (by omega) b,Ad];have d:x.drop i≠[]:=by rw[JE b];exact Yi _ _
   rw[WL (by omega) d,show HL 0 (x.drop i)=CM (x.drop i) from rfl]at a;cases hd:CM (x.drop i) with
   |none=>
    rw[hd]at a;right;simp only[Fk,B2,Ah];exact⟨_,rfl,by rw[a];rfl⟩
   |some v=>
    obtain⟨n,k⟩:=v;rw[hd]at a;have h:=(ZR hd).2.2;rw[Di]at h;left;simp only[Fk,Bf,Ag];rw[B8 (by rw[B3];omega),AY];refine⟨_,rfl,⟨i+k,c++[n], ?_,by omega,by rw[Cb,Aq,Ay];omega, ?_⟩, ?_⟩
    .simp[Ax]
    .rw[a];simp only[mu,MC];congr 1;funext q;simp
    simp only;omega
  .right;rw[B1 (by rw[Av];omega),Ag];have e:x.drop i=[]:=RG (by omega);rw[e,kn]at a;refine⟨_,rfl, ?_⟩;rw[a,A4];simp[cT]) ([],0) ⟨0,[],rfl,Cq _,AE _,by simp⟩
 rw[f];exact g
def uy{cs n:Nat}{step:Int->Option (Int ⊕ (Unit ⊕ (Int×Bool)))}(d:∀i:Nat,i<256->step (i:Int)=some (if DW cs i=some n then .inr (.inr ((i:Int),true)) else .inl ((i+1:Nat):Int)))(c:step 256=some (.inr (.inl ()))):
  ∀(k b:Nat),b+k=256->AC (Bd step (b:Int)) (λ(_:Unit)=>some ((0:Int),false))=some (Gs (NA cs n k b))
 |0,b,h=>by
  obtain rfl:b=256:=by omega
  rw[Io (show step ((256:Nat):Int)=_ from c),A4];rfl
 |k+1,b,h=>by
  have:=d b (by omega);simp only[NA];by_cases a:DW cs b=some n
  .rw[Af a]at this ⊢;rw[Io this,Lb];rfl
  rw[Ae a]at this ⊢;rw[OO this];exact uy d c k (b+1) (by omega)
def Znd{a n i:Nat}:Ab (Gs (DW a i)).2 (Ab (Ak (Gs (DW a i)).1 (n:Int)) (some (.inr (.inr ((i:Int),true)))) (some (.inl (Au .i64 (i:Int) 1)))) (some (.inl (Au .i64 (i:Int) 1)))=some (if DW a i=some n then .inr (.inr ((i:Int),true)) else .inl (Au .i64 (i:Int) 1):Int ⊕ (Unit ⊕ (Int×Bool))):=by
 cases h:DW a i with
 |none=>rfl
 |some m=>
  simp only[Gs,Ah,Ac];by_cases b:m=n
  .rw[Af b,b,LM,Ah]
  rw[Ae b,E7 (by omega),Ag]
def Zmp{a n:Nat}(b:1<=a)(c:a<=4):XL ((a:Int),(n:Int))=some (Gs (Tt a n)):=by
 unfold XL Tt;refine uy (cs:=a) (n:=n) (λi d=>?_) rfl 256 0 rfl;unfold nE;simp only;rw[Bw (by omega),Ah,kU b c d,Ad,Znd,CS (by omega) (by omega)];rfl
def Y3(o:Option (List UInt8×Bool))(l:List UInt8)(p:Option (List UInt8)):Prop:=match p with
 |some b=>o=some (l++b,true)
 |none=>∃q,o=some (q,false)
def Zml{l:List UInt8}{n:Nat}(d:l.length<=1048576000):Y3 (Ui (l,(n:Int))) l (Nc n):=by
 unfold Ui Nc dR;simp only[Ef,Ad];rw[B8 (by omega),AY];by_cases a:n<128
 .rw[AF (by omega),Ah,Af a,B8 (by simp only[Ax,A0];omega),AY,G7];rfl
 rw[AG (by omega),Ag,Ae a];by_cases b:0x3041<=n/\n<=0x3093
 .rw[AF (by omega),Ah,Ad,Af b];simp only[Bf,Ag];rw[B8 (by simp only[Ax,A0];omega),AY,E8 (by omega) (by omega),CS (by omega) (by omega),show (n:Int)-12353+161=((n-0x3041+0xa1:Nat):Int) by omega,G7];rfl
 rw[AG (by omega),Ag,Ae b];by_cases c:0x30a1<=n/\n<=0x30f6
 .rw[AF (by omega),Ah,Ad,Af c];simp only[Bf,Ag];rw[B8 (by simp only[Ax,A0];omega),AY,E8 (by omega) (by omega),CS (by omega) (by omega),show (n:Int)-12449+161=((n-0x30a1+0xa1:Nat):Int) by omega,G7];rfl
 rw[AG (by omega),Ag,Ad,Ae c];exact⟨_,rfl⟩
def Znm{n:Nat}(h:CT n=true):GG (n:Int)=true:=by simp[GG,h]
def Zmk{a n:Nat}{l:List UInt8}(j:a<=5)(f:CT n=true)(i:l.length<=1048576000):Y3 (Uv ((a:Int),(l,(n:Int)))) l (FZ a n):=by
 unfold Uv FZ;simp only;by_cases c:a=0
 .subst c;rw[show Ak ((0:Nat):Int) 0=true from rfl,Ah,Af rfl,Af f,bz (by omega),Ad,cB,Ad,Znm f];simp[Y3]
 rw[E7 (by omega),Ag,Ae c];by_cases d:a=5
 .subst d;rw[show Ak ((5:Nat):Int) 5=true from rfl,Ah,Af rfl];have:=Zml (l:=l) (n:=n) i;cases g:Nc n with
  |none=>rw[g]at this;obtain⟨q,e⟩:=this;rw[e];exact⟨q,rfl⟩
  |some b=>rw[g]at this;rw[show Ui (l,(n:Int))=_ from this];rfl
 rw[E7 (by omega),Ag,Ae d,Zmp (by omega) (by omega),Ad];cases h:Tt a n with
 |none=>
  simp only[Gs,B2,Ah];rw[B8 (by omega),AY];exact⟨_,rfl⟩
 |some b=>
  simp only[Gs,Bf,Ag];rw[B8 (by omega),AY,B8 (by simp only[Ax,A0];omega),AY,G7];rfl
def tC{a n:Nat}{b:List UInt8}(c:a<=5)(h:FZ a n=some b):b.length<=4:=(jm c h []).2.2
def Za8{d:Nat}(w:d<=5){c:List Nat}(o:∀n∈c,CT n=true)(C:c.length<=1048576){P:Int×List UInt8×Int->Option (List UInt8×Bool)}(u:∀{n:Nat}{l:List UInt8},CT n=true->l.length<=1048576000->Y3 (P ((d:Int),(l,(n:Int)))) l (FZ d n))
  {step:List UInt8×Int->Option ((List UInt8×Int) ⊕ (List UInt8 ⊕ (List UInt8×Bool)))} (A:∀(a:List UInt8) (i:Nat) (h:i<c.length),step (a,(i:Int))=Aa (P ((d:Int),(a,(c[i]:Int)))) (λt=>Ab (Ap t.2) (some (.inr (.inr ([],false)))) (some (.inl (t.1,(Au .i64 (i:Int) 1)))))) (x:∀a,step (a,(c.length:Int))=some (.inr (.inl a))):
  AC (Bd step ([],0)) (λs=>some (s,true))=some (F8 (F9 d c)):=by
 have p:∀(k i:Nat) (a:List UInt8),i+k=c.length->a.length<=4*i->AC (Bd step (a,(i:Int))) (λs=>some (s,true))=some (F8 ((F9 d (c.drop i)).map (a++·))):=by
  intro k
  induction k with
  |zero=>
   intro i a y z;obtain rfl:i=c.length:=by omega
   rw[Io (x a),A4,eA];simp[F9,F8]
  |succ k B=>
   intro i a y z;have g:i<c.length:=by omega
   have f:=A a i g;have j:=u (n:=c[i]) (l:=a) (o _ (EN g)) (by omega);rw[H1 g];simp only[F9];cases m:FZ d c[i] with
   |none=>
    rw[m]at j;obtain⟨q,e⟩:=j;rw[e,Ad]at f;simp only[B2,Ah]at f;rw[Io f,Lb];rfl
   |some b=>
    rw[m]at j;rw[show P ((d:Int),(a,(c[i]:Int)))=_ from j,Ad]at f;simp only[Bf,Ag]at f;rw[CS (by omega) (by omega)]at f;have v:=tC w m;rw[OO f,show (i:Int)+1=((i+1:Nat):Int) by omega,B (i+1) (a++b) (by omega) (by rw[Cb];omega)];cases F9 d (c.drop (i+1)) with
    |none=>rfl
    |some r=>simp[F8]
 have:=p c.length 0 [] (by omega) (by simp);rw[AJ]at this;rw[show (0:Int)=((0:Nat):Int) from rfl,this];cases F9 d c with
 |none=>rfl
 |some r=>simp
def vA{x:List UInt8}{a:List Nat}(h:HM 0 x=some a):(∀n∈a,CT n=true)/\a.length<=x.length:=by
 obtain⟨b,c⟩:=bW (cs:=0) (by omega) _ (AE _) h;exact⟨c,jk (by omega) b⟩
def J9(a:Int)(x:List UInt8):Option (List UInt8):=if 0<=a/\a<=5 then Qk a.toNat x else none
def uW{e:Int}{x:List UInt8}(f:x.length<=1048576):Ub (e,x)=some (F8 (J9 e x)):=by
 unfold Ub PG J9;simp only[Zmq f,Ad,Ef];by_cases d:0<=e/\e<=5
 .rw[AF d,Bf,Ag,Af d];obtain⟨c,rfl⟩:=Gb d.1;unfold Qk;rw[Gn];cases k:HM 0 x with
  |none=>rfl
  |some l=>
   obtain⟨a,b⟩:=vA k;simp only[cT,Bf,Ag,DF];refine Za8 (by omega) a (by omega) (P:=Uv) (λj f=>Zmk (by omega) j f) (λg i h=>?_) λg=>?_
   .unfold eQ;simp only;rw[Bw (by simp only[Av,B3];omega),Ah,BK (by rw[B3];exact h),Ad];simp only[List.getElem_map]
   unfold eQ;simp only;rw[B1 (by simp only[Av,B3];omega),Ag]
 rw[AG d,B2,Ah,Ae d];rfl
end
end Go.Vs
