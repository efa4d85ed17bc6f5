import Derived.Test.YteaoaehkkcbmbaaGreatDoorVsQv9
set_option linter.all false
namespace Go.Vs
noncomputable section
def Hv:A8:=([],(0,[]),(0,[]),0,false)
def mF:Fz 100 Hv:=⟨by simp[Hv],by simp[Hv],by simp[Hv]⟩
def VS{b:List UInt8}{s:Cs}(j:DD b)(hs:0<=s.1):∃(r:Bo) (A:Cs),L0 (b,s)=some (r,A)/\FM 100 r/\Dn r=true/\0<=A.1:=by
 rw[L0];obtain⟨v1,G,W,O,_,E⟩:=Dl (s:=s) 4 j hs;have O:=O (by omega);simp only[W,Ad];obtain⟨a,y⟩:∃a:Int,Au .i64 1 (v1:Int)=a:=⟨_,rfl⟩;have Z:1<=a/\a<=4:=by rw[<-y,CS (by omega) (by omega)];omega
 rw[y];have f:∀(q:Cs),0<=q.1->∃(p:Cs) (w sq cd:Int),(Aa (Ct ((b,q),3)) (λc=>(Aa (E2 ((b,c.2),[0,1,2,65535])) (λl=>(Aa (Ct ((b,l.2),7)) (λh=>(some (Sum.inl (h.2.1,(h.2.2,((Au .i64 1 c.1),(l.1,h.1)))):(Int×Int×Int×Int×Int) ⊕ (Bo×Cs)))))))))=some (.inl (p.1,p.2,w,sq,cd))/\(∀k,Ms k w sq cd=true)/\0<=p.1:=by
  intro q D;obtain⟨v3,M,H,Q,_,F⟩:=Dl (s:=q) 3 j D;rw[H,Ad];obtain⟨V,s4,X,S,k4⟩:=F6 (s:=M) [0,1,2,65535] j F (by simp);simp only[X,Ad];obtain⟨v5,s5,Y,T,_,k5⟩:=Dl (s:=s4) 7 j k4;rw[Y,Ad];refine⟨s5,_,_,_,rfl,λk=>?_,k5⟩;have Q:=Q (by omega);have T:=T (by omega);rw[CS (by omega) (by omega)];have S:0<=V/\V<=65535:=by
   simp only[AX,Yx,Yz]at S;omega
  unfold Ms;rw[Ae (by omega)];exact AF ⟨by omega,by omega,by omega,by omega,by omega,by omega⟩
 have i:∀(q:Cs) (R:A8) (d:List UInt8) (n:Int),0<=q.1->Fz 100 R->d.length<=100->Hj a R d n=true->∃(r:Bo) (A:Cs),(AC (Ab (Ak a 4) (Aa (Ct ((b,q),3)) (λc=>(Aa (E2 ((b,c.2),[0,1,2,65535])) (λl=>(Aa (Ct ((b,l.2),7)) (λh=>(some (Sum.inl (h.2.1,(h.2.2,((Au .i64 1 c.1),(l.1,h.1))))))))))))
   (Aa (PF ((b,q),2)) (λc=>(Ab c.1 (Aa (Ct ((b,c.2),3)) (λl=>(Aa (E2 ((b,l.2),[0,1,2,65535])) (λh=>(Aa (Ct ((b,h.2),7)) (λN=>(some (.inl (N.2.1,(N.2.2,((Au .i64 1 l.1),(h.1,N.1)))))))))))) (some (.inl (c.2.1,(c.2.2,(0,(0,0)))))))))) (λ(c:(Int×(Int×(Int×(Int×Int)))))=>(some ((a,(R,(d,(n,c.2.2)))),(c.1,c.2.1)))))=some (r,A)/\FM 100 r/\Dn r=true/\0<=A.1:=by
  intro q R d n D J g I;cases U:Ak a 4 with
  |true=>
   obtain⟨p,w,sq,cd,e,L,K⟩:=f q D;rw[Ah,e,A4];exact⟨_,_,rfl,⟨J,g⟩,by simp only[Dn,I,L a,RQ],K⟩
  |false=>
   obtain⟨t,M,H,F⟩:=ir (s:=q) 2 j D;rw[Ag,H,Ad];cases t with
   |true=>
    obtain⟨p,w,sq,cd,e,L,K⟩:=f M F;simp only[Ah];rw[e,A4];exact⟨_,_,rfl,⟨J,g⟩,by simp only[Dn,I,L a,RQ],K⟩
   |false=>
    simp only[Ag,A4];exact⟨_,_,rfl,⟨J,g⟩,by simp only[Dn,I,I7];unfold Ms;rw[Af rfl];exact AF ⟨rfl,rfl,λe=>by rw[Eu,D8]at U;exact U e⟩,F⟩
 by_cases m:a=1
 .rw[show Ak a 1=true by rw[Eu];exact AF m,Ah];obtain⟨R,B,u,x,z⟩:=rZ (s:=G) j E;rw[u,Ad,A4];exact i B R [] 0 z (bL x) (by simp) (by unfold Hj;rw[Af m,x];rfl)
 rw[show Ak a 1=false by rw[Eu];exact AG m,Ag];by_cases o:a=2
 .rw[show Ak a 2=true by rw[Eu];exact AF o,Ah];obtain⟨d,B,u,x,z⟩:=rT (s:=G) j E;rw[u,Ad,A4];exact i B Hv d 0 z mF (by have:=(Q8 x).2;omega) (by unfold Hj;rw[Ae m,Af o,x];rfl)
 rw[show Ak a 2=false by rw[Eu];exact AG o,Ag];by_cases C:a=3
 .rw[show Ak a 3=true by rw[Eu];exact AF C,Ah];obtain⟨v,B,u,P,_,z⟩:=Dl (s:=G) 8 j E;have P:=P (by omega);rw[u,Ad,A4];exact i B Hv [] v z mF (by simp) (by unfold Hj;rw[Ae m,Ae o,Af C,AF (show 0<=(v:Int)/\(v:Int)<=7 by omega)];rfl)
 rw[show Ak a 3=false by rw[Eu];exact AG C,Ag,A4];exact i G Hv [] 0 E mF (by simp) (by unfold Hj;rw[Ae m,Ae o,Ae C,Af (by omega)];rfl)
def rU{b:List UInt8}{s:Cs}(c:DD b)(d:0<=s.1):∃(v:Int) (a:Cs),Us (b,s)=some (v,a)/\0<=a.1:=by
 rw[Us];obtain⟨v,a,e,_,k⟩:=F6 (s:=s) [0,1,7,255,256,4660,65535,65536,(-1),9223372036854775807,(-9223372036854775808)] c d (by simp);rw[e,Ad];exact⟨_,_,rfl,k⟩
def Zi7{b:List UInt8}{s:Cs}(d:DD b)(y:0<=s.1):∃(r:Bo) (u:Cs),XO (b,s)=some (r,u)/\FM 100 r/\0<=u.1:=by
 rw[XO];obtain⟨r,A,w,⟨f,g⟩,_,z⟩:=VS (s:=s) d y;simp only[w,Ad];obtain⟨i,h,x,_,_,e⟩:=Dl (s:=A) 14 d z;simp only[x,Ad,Eu];by_cases l:(i:Int)=0
 .rw[AF l,Ah];obtain⟨v,j,a,_,_,c⟩:=Dl (s:=h) 6 d e;rw[a,Ad,A4];exact⟨_,_,rfl,⟨f,g⟩,c⟩
 rw[AG l,Ag];by_cases m:(i:Int)=1
 .rw[AF m,Ah];obtain⟨v,j,a,k,c⟩:=rY (s:=h) d e;rw[a,Ad,A4];exact⟨_,_,rfl,⟨k,g⟩,c⟩
 rw[AG m,Ag];by_cases n:(i:Int)=2
 .rw[AF n,Ah];obtain⟨v,j,a,k,c⟩:=rW (s:=h) d e;rw[a,Ad,A4];exact⟨_,_,rfl,⟨f,by simp only;omega⟩,c⟩
 rw[AG n,Ag];by_cases o:(i:Int)=3
 .rw[AF o,Ah];obtain⟨v,j,a,k,c⟩:=F6 (s:=h) [(-1),7,8] d e (by simp);rw[a,Ad,A4];exact⟨_,_,rfl,⟨f,g⟩,c⟩
 rw[AG o,Ag];by_cases p:(i:Int)=4
 .rw[AF p,Ah];obtain⟨v,j,a,k,c⟩:=F6 (s:=h) [(-1),0,9,10] d e (by simp);rw[a,Ad,A4];exact⟨_,_,rfl,⟨f,g⟩,c⟩
 rw[AG p,Ag];by_cases q:(i:Int)=5
 .rw[AF q,Ah];obtain⟨v,j,a,c⟩:=rU (s:=h) d e;rw[a,Ad,A4];exact⟨_,_,rfl,⟨f,g⟩,c⟩
 rw[AG q,Ag];by_cases t:(i:Int)=6
 .rw[AF t,Ah];obtain⟨v,j,a,k,c⟩:=F6 (s:=h) [(-1),6,7] d e (by simp);rw[a,Ad,A4];exact⟨_,_,rfl,⟨f,g⟩,c⟩
 rw[AG t,Ag,A4];exact⟨_,_,rfl,⟨f,g⟩,e⟩
end
end Go.Vs
