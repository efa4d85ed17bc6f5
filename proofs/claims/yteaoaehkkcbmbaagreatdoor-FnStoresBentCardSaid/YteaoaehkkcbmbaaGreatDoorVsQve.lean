import Derived.Test.YteaoaehkkcbmbaaGreatDoorVsQvd
set_option linter.all false
namespace Go.Vs
noncomputable section
abbrev Mk:=Int×Int×Int
def s8{f:Int}(h:-1<=f/\f<=1000):-1<=Gx f/\Gx f<=1000:=by unfold Gx;split<;>omega
def Rq{x:Dv}{n:Int}{b:List UInt8}(h:EQ x=true):EQ (x.1,Ff x.1 x.2.1 x.2.2.1 x.2.2.2 n b)=true:=by
 obtain⟨d,i,j,e,f⟩:=Hk (show CH x.1 x.2.1 x.2.2.1=true from h);unfold Ff;split
 .exact h
 rename_i c;split
 .exact O1 d i (by simp) e f
 refine O1 d ?_ (s8 j) e ?_
 .simp only[Cb,my];have:¬40<=x.2.1.length:=λh=>c (.inr (.inr (.inr h)));omega
 intro w a;rcases C7.1 a with a|a
 .exact f w a
 simp only[Db]at a;subst a;have g:0<=n/\n<=(x.1.length:Int)-1:=Decidable.not_not.1 λh=>c (.inr (.inl h));have k:¬120<b.length:=λh=>c (.inr (.inr (.inl h)));exact⟨g.1,g.2,by simp only;omega⟩
def V4{x:Dv}(h:EQ x=true):EQ (E6 x.1 x.2.1 x.2.2.1 x.2.2.2)=true:=by
 obtain⟨b,e,f,c,d⟩:=Hk (show CH x.1 x.2.1 x.2.2.1=true from h);unfold E6;split
 .exact h
 split
 .exact O1 b e (by simp) c d
 refine O1 ?_ (by simp) (s8 f) ?_ ?_
 .simpa using b
 .exact gv c λw a=>(d w a).2.2
 intro w a;cases a
def TC{x:Dv}{n:Int}{b:List UInt8}(h:EQ x=true)(c:b.length<=1048576):
  J5 (x,(n,b))=some (x.1,Ff x.1 x.2.1 x.2.2.1 x.2.2.2 n b)/\KE (x,(n,b))=some (Ff x.1 x.2.1 x.2.2.1 x.2.2.2 n b):=by
 have a:=Qh h;obtain⟨e,f,d,g,i⟩:=Hk (show CH x.1 x.2.1 x.2.2.1=true from h);constructor
 .rw[Zii a c];unfold mD;rw[wz (show CH x.1 x.2.1 x.2.2.1=true from h)]
 exact u9 a d c
def S4{x:Dv}(h:EQ x=true):KA x=some (E6 x.1 x.2.1 x.2.2.1 x.2.2.2)/\Ka x=some (E6 x.1 x.2.1 x.2.2.1 x.2.2.2):=by
 have a:=Qh h;obtain⟨e,f,d,g,b⟩:=Hk (show CH x.1 x.2.1 x.2.2.1=true from h);constructor
 .rw[Zh0 a];unfold gt;rw[qK (show CH x.1 x.2.1 x.2.2.1=true from h)]
 exact uX a d (λw c=>⟨(b w c).1,(b w c).2.1⟩)
def ET(g i:Int):Int:=Au .i64 (Au .i64 2 (Fu .i64 30 (EX g 2))) i
def WM(g:Int)(a:List Bo)(D:Dv)(i:Nat):Dv:=(D.1,Ff D.1 D.2.1 D.2.2.1 D.2.2.2 (ET g i) (FK g i (a.getD i (lN 0))))
def Cf(g:Int)(a:List Bo)(D:Dv):Nat->Dv
 |0=>D
 |i+1=>WM g a (Cf g a D i) i
def Sp{g:Int}{rs:List Bo}{D:Dv}(h:EQ D=true):∀i,EQ (Cf g rs D i)=true
 |0=>h
 |i+1=>Rq (Sp h i)
def ZB{g:Int}{rs:List Bo}{D:Dv}:∀i,(Cf g rs D i).1=D.1
 |0=>rfl
 |i+1=>ZB (D:=D) i
def bY(g i:Int)(r:Bo):(FK g i r).length<=1048576:=by
 unfold FK WN;split
 .have:=jt g i r;rw[Cb,Rp];omega
 simp
def qa(g n:Int):(GV g n).length<=1048576:=by rw[Zhl];split<;>omega
def Gg(g:Int)(d:List Bo)(D:Dv):Dv:=
 let b:=Cf g d D d.length
 let a:=E6 b.1 b.2.1 b.2.2.1 b.2.2.2
 let c:Dv:=(a.1,Ff a.1 a.2.1 a.2.2.1 a.2.2.2 (EX g 2) (GV g d.length))
 E6 c.1 c.2.1 c.2.2.1 c.2.2.2
def VV{g:Int}{rs:List Bo}{D:Dv}(h:EQ D=true):EQ (Gg g rs D)=true:=V4 (x:=(_,_)) (Rq (V4 (Sp h _)))
def Zb0{a:List Bo}{i:Nat}(h:i<a.length):a.getD i (lN 0)=a[i]:=by simp[h]
def o7{g:Int}{a:List Bo}{D:Dv}{i:Nat}(b:i<a.length):Cf g a D (i+1)=((Cf g a D i).1,Ff (Cf g a D i).1 (Cf g a D i).2.1 (Cf g a D i).2.2.1 (Cf g a D i).2.2.2 (ET g i) (FK g i a[i])):=by
 show WM g a (Cf g a D i) i=_;unfold WM;rw[Zb0 b]
def k_{D:Dv}{T:List A8×Int×List Mk}{gp:Int×Int}{g:Int}{a:List Bo}(q:EQ D=true)(u:Uk T=some a)(z:a.length<=4194304)(v:∀r∈a,FM 1048576 r):
  L3 ((D,(T,gp)),g)=some ((Gg g a D).1,((Gg g a D).2.1,((Gg g a D).2.2.1,((Gg g a D).2.2.2,(T.2.1,if (Gg g a D).2.2.2=true then gp else (g,(a.length:Int))))))):=by
 rw[L3];simp only;rw[u,Ad];rw[show Bd (YV ((D,(T,gp)),g) a) (D.2.1,(D.2.2.1,(D.2.2.2,0)))=some (.inl (Cf g a D a.length).2) from HI (λi=>((Cf g a D i).2.1,((Cf g a D i).2.2.1,((Cf g a D i).2.2.2,(i:Int))))) a.length _ (λi m=>by
   have j:=Sp (g:=g) (rs:=a) q i;have k:=ZB (g:=g) (rs:=a) (D:=D) i;rw[YV];simp only;rw[Bw (by rw[Av];omega),Ah,show L2 (g,(i:Int))=some (ET g i) from rfl,Ad,BK m,Ad,u5 (v _ (EN m)),Ad];have e:∀d,d=(Cf g a D i).1->KE ((d,(Cf g a D i).2),(ET g i,FK g i a[i]))=some (Ff (Cf g a D i).1 (Cf g a D i).2.1 (Cf g a D i).2.2.1 (Cf g a D i).2.2.2 (ET g i) (FK g i a[i])):=by
    rintro _ rfl;exact (TC (x:=Cf g a D i) (n:=ET g i) (b:=FK g i a[i]) j (bY _ _ _)).2
   rw[show KE ((D.1,((Cf g a D i).2.1,((Cf g a D i).2.2.1,(Cf g a D i).2.2.2))),(ET g i,FK g i a[i]))=some (Ff (Cf g a D i).1 (Cf g a D i).2.1 (Cf g a D i).2.2.1 (Cf g a D i).2.2.2 (ET g i) (FK g i a[i])) from e D.1 k.symm,Ad,CX (by omega)];rw[o7 m]) (by
   rw[YV];simp only;rw[B1 (by rw[Av];omega),Ag]) _ rfl,A4]
 have j:=Sp (g:=g) (rs:=a) q a.length;have k:=ZB (g:=g) (rs:=a) (D:=D) a.length;have p:=(S4 j).2;have o:=V4 j;generalize l:E6 (Cf g a D a.length).1 (Cf g a D a.length).2.1 (Cf g a D a.length).2.2.1 (Cf g a D a.length).2.2.2=c at p o;have y:=(TC (x:=c) (n:=EX g 2) (b:=GV g a.length) o (qa _ _)).2;have w:=Rq (n:=EX g 2) (b:=GV g a.length) o;have t:=(S4 w).2;have s:∀d,d=(Cf g a D a.length).1->Ka (d,(Cf g a D a.length).2)=some c:=by
  rintro _ rfl;exact p
 rw[s D.1 k.symm,Ad,Av,Zmh,Ad,y,Ad];rw[show Ka (c.1,Ff c.1 c.2.1 c.2.2.1 c.2.2.2 (EX g 2) (GV g (a.length:Int)))=_ from t,Ad];have h:Gg g a D=E6 c.1 (Ff c.1 c.2.1 c.2.2.1 c.2.2.2 (EX g 2) (GV g a.length)).1 (Ff c.1 c.2.1 c.2.2.1 c.2.2.2 (EX g 2) (GV g a.length)).2.1 (Ff c.1 c.2.1 c.2.2.1 c.2.2.2 (EX g 2) (GV g a.length)).2.2:=by
  unfold Gg;simp only[l]
 rw[<-h];cases f:(Gg g a D).2.2.2 with
 |true=>simp only[B2,Bf,Ah,Ag,f,BF]
 |false=>simp only[B2,Bf,Ah,Ag,f];rfl
end
end Go.Vs
