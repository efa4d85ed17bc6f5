import Derived.Test.YtmfmjngkbddenaaGreatDoorVsW5
import Derived.Test.YtmfmjngkbddenaaGreatDoorVsQtj
set_option linter.all false
namespace Go.Vs
noncomputable section
def En (l:List UInt8):Int×Int×Bool:=match l with
 | [a,b,c,d,e,f]=>if ((e.toNat*256+f.toNat:Nat):Int)=(crc [a,b,c,d]:Nat)/\K2 ((a.toNat*256+b.toNat:Nat):Int) ((c.toNat*256+d.toNat:Nat):Int)=true then (((a.toNat*256+b.toNat:Nat):Int),((c.toNat*256+d.toNat:Nat):Int),true) else (0,0,false)
 | _=>(0,0,false)
theorem Yrh {l:List UInt8}(h:l.length≠6):En l=(0,0,false):=by
 unfold En;split
 ·simp at h
 ·rfl
theorem of6 {l:List UInt8}(h:l.length=6):∃a b c d e f,l=[a,b,c,d,e,f]:=by
 match l,h with
 | [a,b,c,d,e,f],_=>exact⟨a,b,c,d,e,f,rfl⟩
theorem Yox {l:List UInt8}(hl:l.length<=1048576):Xp l=some (En l):=by
 have hw:∀(k:Int) ,Ik (l,(k,false))=some (match Cp (suf l k) with|none=>(0,(k,true))|some (n,_)=>(n,(k+2,false))):=by
  intro k;unfold Ik;simp only;rw[Zz (by omega),Aa,Ac];cases Cp (suf l k)<;>rfl
 have hb:∀k:Int,Ik (l,(k,true))=some (0,(k,true)):=by
  intro k;unfold Ik;simp only;rw[Zz (by omega),Aa,Ad]
 have hsb:∀k:Int,Nu (l,(k,true))=some (false,(k,true)):=by
  intro k;unfold Nu;simp only[hb,Aa,Au,Ac]
 unfold Xp;rw[hw,Aa];by_cases h6:l.length=6
 ·obtain⟨a,b,c,d,e,f,rfl⟩:=of6 h6;have ha:=B0 a;have hb:=B0 b;have hc:=B0 c;have hd:=B0 d;have e0:Cp (suf [a,b,c,d,e,f] 0)=some (((a.toNat*256+b.toNat:Nat):Int),[c,d,e,f]):=rfl;have e2:Cp (suf [a,b,c,d,e,f] 2)=some (((c.toNat*256+d.toNat:Nat):Int),[e,f]):=rfl;have e4:Cp (suf [a,b,c,d,e,f] 4)=some (((e.toNat*256+f.toNat:Nat):Int),[]):=rfl;have et:Bp (nOf 4-0) [a,b,c,d,e,f]=[a,b,c,d]:=rfl;rw[e0];simp only;rw[show (0:Int)+2=2 from rfl,hw,e2,Aa];simp only;rw[show (2:Int)+2=4 from rfl];unfold Nu;simp only;rw[hw,e4,Aa];simp only[A3,Ad,et];rw[show De 0 4 (Ah [a,b,c,d,e,f])=true from rfl,Az,Z0 (by simp),Aa];unfold En K2;simp only;rw[E9];by_cases h1:((e.toNat*256+f.toNat:Nat):Int)=(crc [a,b,c,d]:Nat)
  case neg=>rw[decide_eq_false h1,Ac,Aa,A3,Ad,if_neg (fun h=>h1 h.1)]
  rw[decide_eq_true h1,Ad,Aa,show iEq (4+2) (Ah [a,b,c,d,e,f])=true from rfl,Au,Ac,Gz,Aa];by_cases h2:(1:Int)<=((a.toNat*256+b.toNat:Nat):Int)/\((a.toNat*256+b.toNat:Nat):Int)<=60000
  case neg=>rw[decide_eq_false h2,A3,Ad,if_neg (fun h=>by simp at h)]
  rw[decide_eq_true h2,Au,Ac,Gz,Aa];by_cases h3:(0:Int)<=((c.toNat*256+d.toNat:Nat):Int)/\((c.toNat*256+d.toNat:Nat):Int)<=30
  ·rw[decide_eq_true h3,Au,Ac,if_pos ⟨h1,by simp⟩]
  ·rw[decide_eq_false h3,A3,Ad,if_neg (fun h=>by simp at h)]
 ·rw[Yrh h6]
  -- whatever is read,the end is not reached,or there is too little
  cases p0:Cp (suf l 0) with
  | none=>simp only[hb,Aa,hsb,A3,Ad]
  | some v0 =>
   simp only;rw[show (0:Int)+2=2 from rfl,hw,Aa];cases p2:Cp (suf l 2) with
   | none=>simp only[hsb,Aa,A3,Ad]
   | some v2 =>
    simp only;rw[show (2:Int)+2=4 from rfl];unfold Nu;simp only;rw[hw,Aa];cases p4:Cp (suf l 4) with
    | none=>simp only[Au,Ac,Aa,A3,Ad]
    | some v4 =>
     have hlen:6<=l.length:=by
      obtain⟨n,q⟩:=v4;have:=(Rk p4).1;have:=congrArg List.length this;rw[show (4:Int)=((4:Nat):Int) from rfl,W5]at this;simp [Bg]at this;omega
     simp only[A3,Ad];rw[show De 0 4 (Ah l)=true from decide_eq_true (by simp only[Ak];omega),Az,Z0 (by simp [Bp];omega),Aa,show (4:Int)+2=6 from rfl,Dk (a:=6) (by simp only[Ak];omega)];cases iEq v4.1 _<;>simp only[Ad,Ac,Aa,A3]
theorem Zq6 {n:Int}(h0:0<=n) (h1:n<65536):∃a b:UInt8,Bg n=[a,b]/\((a.toNat*256+b.toNat:Nat):Int)=n:=by
 refine⟨_,_,rfl, ?_⟩;rw[D0 (by omega),D0 (by omega)];omega
theorem Zvi {g n:Int}(h:K2 g n=true):En (Zmb g n)=(g,n,true):=by
 have h0:=h;simp only[K2,Kd,decide_eq_true_eq]at h0;obtain⟨a,b,e1,q1⟩:=Zq6 (n:=g) (by omega) (by omega);obtain⟨c,d,e2,q2⟩:=Zq6 (n:=n) (by omega) (by omega);have hc:=Ob (Bg g++Bg n);obtain⟨e,f,e3,q3⟩:=Zq6 (n:=(crc (Bg g++Bg n):Nat)) (by omega) (by omega);unfold Zmb;rw[e3];rw[e1,e2]at q3 ⊢;show En [a,b,c,d,e,f]=_;unfold En;simp only[q1,q2];rw[if_pos ⟨q3,h⟩]
end
end Go.Vs
