import Derived.Test.YteaoaehkkcbmbaaGreatDoorVsQvj
set_option linter.all false
namespace Go.Vs
noncomputable section
def Ih(l:List UInt8):Int×Int×Bool:=match l with
 |[a,b,c,d,e,f]=>if ((e.toNat*256+f.toNat:Nat):Int)=(EP [a,b,c,d]:Nat)/\Qx ((a.toNat*256+b.toNat:Nat):Int) ((c.toNat*256+d.toNat:Nat):Int)=true then (((a.toNat*256+b.toNat:Nat):Int),((c.toNat*256+d.toNat:Nat):Int),true) else (0,0,false)
 |_=>(0,0,false)
def sR{l:List UInt8}(h:l.length≠6):Ih l=(0,0,false):=by
 unfold Ih;split
 .simp at h
 rfl
def sW{l:List UInt8}(h:l.length=6):∃a b c d e f,l=[a,b,c,d,e,f]:=by
 match l,h with
 |[a,b,c,d,e,f],_=>exact⟨a,b,c,d,e,f,rfl⟩
def Zme{l:List UInt8}(t:l.length<=1048576):Uf l=some (Ih l):=by
 unfold Uf;rw[WE (by omega),Ad,WE (by omega),Ad,WE (by omega),Ad];by_cases j:l.length=6
 .obtain⟨a,b,c,d,e,f,rfl⟩:=sW j;have q:=Cx a;have r:=Cx b;have s:=Cx c;have hd:=Cx d;have k:Cy (FE [a,b,c,d,e,f] 0)=some (((a.toNat*256+b.toNat:Nat):Int),[c,d,e,f]):=rfl;have m:Cy (FE [a,b,c,d,e,f] 2)=some (((c.toNat*256+d.toNat:Nat):Int),[e,f]):=rfl;have n:Cy (FE [a,b,c,d,e,f] 4)=some (((e.toNat*256+f.toNat:Nat):Int),[]):=rfl;have o:BA (A9 4-0) [a,b,c,d,e,f]=[a,b,c,d]:=rfl;rw[k,m,n];simp only[Bf,Ag,o];rw[show AI (Am [a,b,c,d,e,f]) 6=false from rfl,Ag,show De 0 4 (Am [a,b,c,d,e,f])=true from rfl,AY,cE (by simp),Ad];unfold Ih Qx;simp only;by_cases g:((e.toNat*256+f.toNat:Nat):Int)=(EP [a,b,c,d]:Nat)
  case neg=>rw[Hl g,Ah,Ae (λh=>g h.1)]
  rw[show AI ((e.toNat*256+f.toNat:Nat):Int) ((EP [a,b,c,d]:Nat):Int)=false by rw[g,Jr],Ag,Ef,Ad];by_cases i:(1:Int)<=((a.toNat*256+b.toNat:Nat):Int)/\((a.toNat*256+b.toNat:Nat):Int)<=60000
  case neg=>rw[AG i,B2,Ah,Ae (λh=>by simp at h)]
  rw[AF i,Bf,Ag];by_cases p:((c.toNat*256+d.toNat:Nat):Int)<=30
  .rw[Ee p,Ag,Af ⟨g,by simp only[I7,AA];omega⟩]
  rw[D4 (by omega),Ah,Ae (λh=>by have:=h.2;simp only[I7,AA]at this;omega)]
 rw[sR j];cases Cy (FE l 4) with
 |none=>rfl
 |some v=>simp only[Bf,Ag];rw[Hl (by simp only[Av];omega),Ah]
def Zh3{l:List UInt8}(B:l.length<=1048576):TL l=some (Ih l):=by
 have i:∀(k:Int) ,Jb (l,(k,false))=some (match Cy (FE l k) with|none=>(0,(k,true))|some (n,_)=>(n,(k+2,false))):=by
  intro k;unfold Jb;simp only;rw[VD (by omega),Ad,Ag];cases Cy (FE l k)<;>rfl
 have m:∀k:Int,Jb (l,(k,true))=some (0,(k,true)):=by
  intro k;unfold Jb;simp only;rw[VD (by omega),Ad,Ah]
 have g:∀k:Int,Mz (l,(k,true))=some (false,(k,true)):=by
  intro k;unfold Mz;simp only[m,Ad,Bf,Ag]
 unfold TL;rw[i,Ad];by_cases r:l.length=6
 .obtain⟨a,b,c,d,e,f,rfl⟩:=sW r;have z:=Cx a;have m:=Cx b;have A:=Cx c;have hd:=Cx d;have u:Cy (FE [a,b,c,d,e,f] 0)=some (((a.toNat*256+b.toNat:Nat):Int),[c,d,e,f]):=rfl;have v:Cy (FE [a,b,c,d,e,f] 2)=some (((c.toNat*256+d.toNat:Nat):Int),[e,f]):=rfl;have w:Cy (FE [a,b,c,d,e,f] 4)=some (((e.toNat*256+f.toNat:Nat):Int),[]):=rfl;have x:BA (A9 4-0) [a,b,c,d,e,f]=[a,b,c,d]:=rfl;rw[u];simp only;rw[show (0:Int)+2=2 from rfl,i,v,Ad];simp only;rw[show (2:Int)+2=4 from rfl];unfold Mz;simp only;rw[i,w,Ad];simp only[B2,Ah,x];rw[show De 0 4 (Am [a,b,c,d,e,f])=true from rfl,AY,VF (by simp),Ad];unfold Ih Qx;simp only;rw[Eu];by_cases j:((e.toNat*256+f.toNat:Nat):Int)=(EP [a,b,c,d]:Nat)
  case neg=>rw[AG j,Ag,Ad,B2,Ah,Ae (λh=>j h.1)]
  rw[AF j,Ah,Ad,show Ak (4+2) (Am [a,b,c,d,e,f])=true from rfl,Bf,Ag,HD,Ad];by_cases o:(1:Int)<=((a.toNat*256+b.toNat:Nat):Int)/\((a.toNat*256+b.toNat:Nat):Int)<=60000
  case neg=>rw[AG o,B2,Ah,Ae (λh=>by simp at h)]
  rw[AF o,Bf,Ag,HD,Ad];by_cases p:(0:Int)<=((c.toNat*256+d.toNat:Nat):Int)/\((c.toNat*256+d.toNat:Nat):Int)<=30
  .rw[AF p,Bf,Ag,Af ⟨j,by simp⟩]
  rw[AG p,B2,Ah,Ae (λh=>by simp at h)]
 rw[sR r]
 -- whatever is read,the end is not reached,or there is too little
 cases C:Cy (FE l 0) with
 |none=>simp only[m,Ad,g,B2,Ah]
 |some E=>
  simp only;rw[show (0:Int)+2=2 from rfl,i,Ad];cases D:Cy (FE l 2) with
  |none=>simp only[g,Ad,B2,Ah]
  |some F=>
   simp only;rw[show (2:Int)+2=4 from rfl];unfold Mz;simp only;rw[i,Ad];cases y:Cy (FE l 4) with
   |none=>simp only[Bf,Ag,Ad,B2,Ah]
   |some t=>
    have s:6<=l.length:=by
     obtain⟨n,q⟩:=t;have:=(NM y).1;have:=DU List.length this;rw[show (4:Int)=((4:Nat):Int) from rfl,NE]at this;simp[Ci]at this;omega
    simp only[B2,Ah];rw[show De 0 4 (Am l)=true from AF (by simp only[Av];omega),AY,VF (by simp[BA];omega),Ad,show (4:Int)+2=6 from rfl,E7 (a:=6) (by simp only[Av];omega)];cases Ak t.1 _<;>simp only[Ah,Ag,Ad,B2]
end
end Go.Vs
