import Derived.Test.YtmfmjngkbddenaaGreatDoorVsQtj
set_option linter.all false
namespace Go.Vs
noncomputable section
def Eo (l:List UInt8):Int×Int×Bool:=match l with
 | [a,b,c,d,e,f]=>if ((e.toNat*256+f.toNat:Nat):Int)=(crc [a,b,c,d]:Nat)/\K3 ((a.toNat*256+b.toNat:Nat):Int) ((c.toNat*256+d.toNat:Nat):Int)=true then (((a.toNat*256+b.toNat:Nat):Int),((c.toNat*256+d.toNat:Nat):Int),true) else (0,0,false)
 | _=>(0,0,false)
theorem Yr1 {l:List UInt8}(h:l.length≠6):Eo l=(0,0,false):=by
 unfold Eo;split
 ·simp at h
 rfl
theorem of6 {l:List UInt8}(h:l.length=6):∃a b c d e f,l=[a,b,c,d,e,f]:=by
 match l,h with
 | [a,b,c,d,e,f],_=>exact⟨a,b,c,d,e,f,rfl⟩
theorem Ype {l:List UInt8}(hl:l.length<=1048576):X3 l=some (Eo l):=by
 have hw:∀(k:Int) ,Io (l,(k,false))=some (match Cu (suf l k) with|none=>(0,(k,true))|some (n,_)=>(n,(k+2,false))):=by
  intro k;unfold Io;simp only;rw[Zaa (by omega),Aa,Ac];cases Cu (suf l k)<;>rfl
 have hb:∀k:Int,Io (l,(k,true))=some (0,(k,true)):=by
  intro k;unfold Io;simp only;rw[Zaa (by omega),Aa,Ad]
 have hsb:∀k:Int,Nw (l,(k,true))=some (false,(k,true)):=by
  intro k;unfold Nw;simp only[hb,Aa,Av,Ac]
 unfold X3;rw[hw,Aa];by_cases h6:l.length=6
 ·obtain⟨a,b,c,d,e,f,rfl⟩:=of6 h6;have ha:=B1 a;have hb:=B1 b;have hc:=B1 c;have hd:=B1 d;have e0:Cu (suf [a,b,c,d,e,f] 0)=some (((a.toNat*256+b.toNat:Nat):Int),[c,d,e,f]):=rfl;have e2:Cu (suf [a,b,c,d,e,f] 2)=some (((c.toNat*256+d.toNat:Nat):Int),[e,f]):=rfl;have e4:Cu (suf [a,b,c,d,e,f] 4)=some (((e.toNat*256+f.toNat:Nat):Int),[]):=rfl;have et:Br (nOf 4-0) [a,b,c,d,e,f]=[a,b,c,d]:=rfl;rw[e0];simp only;rw[show (0:Int)+2=2 from rfl,hw,e2,Aa];simp only;rw[show (2:Int)+2=4 from rfl];unfold Nw;simp only;rw[hw,e4,Aa];simp only[A5,Ad,et];rw[show Di 0 4 (Ah [a,b,c,d,e,f])=true from rfl,Az,Zab (by simp),Aa];unfold Eo K3;simp only;rw[E8];by_cases h1:((e.toNat*256+f.toNat:Nat):Int)=(crc [a,b,c,d]:Nat)
  case neg=>rw[decide_eq_false h1,Ac,Aa,A5,Ad,if_neg (fun h=>h1 h.1)]
  rw[decide_eq_true h1,Ad,Aa,show iEq (4+2) (Ah [a,b,c,d,e,f])=true from rfl,Av,Ac,G1,Aa];by_cases h2:(1:Int)<=((a.toNat*256+b.toNat:Nat):Int)/\((a.toNat*256+b.toNat:Nat):Int)<=60000
  case neg=>rw[decide_eq_false h2,A5,Ad,if_neg (fun h=>by simp at h)]
  rw[decide_eq_true h2,Av,Ac,G1,Aa];by_cases h3:(0:Int)<=((c.toNat*256+d.toNat:Nat):Int)/\((c.toNat*256+d.toNat:Nat):Int)<=30
  ·rw[decide_eq_true h3,Av,Ac,if_pos ⟨h1,by simp⟩]
  rw[decide_eq_false h3,A5,Ad,if_neg (fun h=>by simp at h)]
 rw[Yr1 h6]
 -- whatever is read,the end is not reached,or there is too little
 cases p0:Cu (suf l 0) with
 | none=>simp only[hb,Aa,hsb,A5,Ad]
 | some v0 =>
  simp only;rw[show (0:Int)+2=2 from rfl,hw,Aa];cases p2:Cu (suf l 2) with
  | none=>simp only[hsb,Aa,A5,Ad]
  | some v2 =>
   simp only;rw[show (2:Int)+2=4 from rfl];unfold Nw;simp only;rw[hw,Aa];cases p4:Cu (suf l 4) with
   | none=>simp only[Av,Ac,Aa,A5,Ad]
   | some v4 =>
    have hlen:6<=l.length:=by
     obtain⟨n,q⟩:=v4;have:=(Rq p4).1;have:=congrArg List.length this;rw[show (4:Int)=((4:Nat):Int) from rfl,Xf]at this;simp [Bh]at this;omega
    simp only[A5,Ad];rw[show Di 0 4 (Ah l)=true from decide_eq_true (by simp only[Ak];omega),Az,Zab (by simp [Br];omega),Aa,show (4:Int)+2=6 from rfl,Dp (a:=6) (by simp only[Ak];omega)];cases iEq v4.1 _<;>simp only[Ad,Ac,Aa,A5]
theorem Zrp {n:Int}(h0:0<=n) (h1:n<65536):∃a b:UInt8,Bh n=[a,b]/\((a.toNat*256+b.toNat:Nat):Int)=n:=by
 refine⟨_,_,rfl, ?_⟩;rw[D3 (by omega),D3 (by omega)];omega
theorem Zvx {g n:Int}(h:K3 g n=true):Eo (Zmr g n)=(g,n,true):=by
 have h0:=h;simp only[K3,Kd,decide_eq_true_eq]at h0;obtain⟨a,b,e1,q1⟩:=Zrp (n:=g) (by omega) (by omega);obtain⟨c,d,e2,q2⟩:=Zrp (n:=n) (by omega) (by omega);have hc:=Oc (Bh g++Bh n);obtain⟨e,f,e3,q3⟩:=Zrp (n:=(crc (Bh g++Bh n):Nat)) (by omega) (by omega);unfold Zmr;rw[e3];rw[e1,e2]at q3 ⊢;show Eo [a,b,c,d,e,f]=_;unfold Eo;simp only[q1,q2];rw[if_pos ⟨q3,h⟩]
end
end Go.Vs
