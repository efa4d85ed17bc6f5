import Derived.Test.YtmfmjngkbddenaaGreatDoorVsW5
import Derived.Test.YtmfmjngkbddenaaGreatDoorVsQod
set_option linter.all false
namespace Go.Vs
noncomputable section
def G4 (l:List UInt8):Int×Int×Bool:=match l with
 | [a,b,c,d,e,f]=>if ((e.toNat*256+f.toNat:Nat):Int)=(crc [a,b,c,d]:Nat)/\Si ((a.toNat*256+b.toNat:Nat):Int) ((c.toNat*256+d.toNat:Nat):Int)=true then (((a.toNat*256+b.toNat:Nat):Int),((c.toNat*256+d.toNat:Nat):Int),true) else (0,0,false)
 | _=>(0,0,false)
theorem Zw4 {l:List UInt8}(h:l.length≠6):G4 l=(0,0,false):=by
 unfold G4;split
 ·simp at h
 ·rfl
theorem of6 {l:List UInt8}(h:l.length=6):∃a b c d e f,l=[a,b,c,d,e,f]:=by
 match l,h with
 | [a,b,c,d,e,f],_=>exact⟨a,b,c,d,e,f,rfl⟩
theorem Ysi {l:List UInt8}(hl:l.length<=1048576):Xn l=some (G4 l):=by
 unfold Xn;rw[Zao (by omega),Aa,Zao (by omega),Aa,Zao (by omega),Aa];by_cases h6:l.length=6
 ·obtain⟨a,b,c,d,e,f,rfl⟩:=of6 h6;have ha:=Bv a;have hb:=Bv b;have hc:=Bv c;have hd:=Bv d;have e0:Bw (suf [a,b,c,d,e,f] 0)=some (((a.toNat*256+b.toNat:Nat):Int),[c,d,e,f]):=rfl;have e2:Bw (suf [a,b,c,d,e,f] 2)=some (((c.toNat*256+d.toNat:Nat):Int),[e,f]):=rfl;have e4:Bw (suf [a,b,c,d,e,f] 4)=some (((e.toNat*256+f.toNat:Nat):Int),[]):=rfl;have et:A9 (nOf 4-0) [a,b,c,d,e,f]=[a,b,c,d]:=rfl;rw[e0,e2,e4];simp only[Az,Ac,et];rw[show iNe (Ae [a,b,c,d,e,f]) 6=false from rfl,Ac,show Cp 0 4 (Ae [a,b,c,d,e,f])=true from rfl,Av,Zg5 (by simp),Aa];unfold G4 Si;simp only;by_cases h1:((e.toNat*256+f.toNat:Nat):Int)=(crc [a,b,c,d]:Nat)
  case neg=>rw[Jq h1,Ad,if_neg (fun h=>h1 h.1)]
  rw[show iNe ((e.toNat*256+f.toNat:Nat):Int) ((crc [a,b,c,d]:Nat):Int)=false by rw[h1,Eo],Ac,D0,Aa];by_cases h2:(1:Int)<=((a.toNat*256+b.toNat:Nat):Int)/\((a.toNat*256+b.toNat:Nat):Int)<=60000
  case neg=>rw[decide_eq_false h2,Bd,Ad,if_neg (fun h=>by simp at h)]
  rw[decide_eq_true h2,Az,Ac];by_cases h3:((c.toNat*256+d.toNat:Nat):Int)<=30
  ·rw[Dx h3,Ac,if_pos ⟨h1,by simp only[Kqc,decide_eq_true_eq];omega⟩]
  ·rw[Df (by omega),Ad,if_neg (fun h=>by have:=h.2;simp only[Kqc,decide_eq_true_eq]at this;omega)]
 ·rw[Zw4 h6];cases Bw (suf l 4) with
  | none=>rfl
  | some v=>simp only[Az,Ac];rw[Jq (by simp only[Ai];omega),Ad]
theorem Yoi {l:List UInt8}(hl:l.length<=1048576):W4 l=some (G4 l):=by
 have hw:∀(k:Int) ,Ic (l,(k,false))=some (match Bw (suf l k) with|none=>(0,(k,true))|some (n,_)=>(n,(k+2,false))):=by
  intro k;unfold Ic;simp only;rw[Ze (by omega),Aa,Ac];cases Bw (suf l k)<;>rfl
 have hb:∀k:Int,Ic (l,(k,true))=some (0,(k,true)):=by
  intro k;unfold Ic;simp only;rw[Ze (by omega),Aa,Ad]
 have hsb:∀k:Int,Na (l,(k,true))=some (false,(k,true)):=by
  intro k;unfold Na;simp only[hb,Aa,Az,Ac]
 unfold W4;rw[hw,Aa];by_cases h6:l.length=6
 ·obtain⟨a,b,c,d,e,f,rfl⟩:=of6 h6;have ha:=Bv a;have hb:=Bv b;have hc:=Bv c;have hd:=Bv d;have e0:Bw (suf [a,b,c,d,e,f] 0)=some (((a.toNat*256+b.toNat:Nat):Int),[c,d,e,f]):=rfl;have e2:Bw (suf [a,b,c,d,e,f] 2)=some (((c.toNat*256+d.toNat:Nat):Int),[e,f]):=rfl;have e4:Bw (suf [a,b,c,d,e,f] 4)=some (((e.toNat*256+f.toNat:Nat):Int),[]):=rfl;have et:A9 (nOf 4-0) [a,b,c,d,e,f]=[a,b,c,d]:=rfl;rw[e0];simp only;rw[show (0:Int)+2=2 from rfl,hw,e2,Aa];simp only;rw[show (2:Int)+2=4 from rfl];unfold Na;simp only;rw[hw,e4,Aa];simp only[Bd,Ad,et];rw[show Cp 0 4 (Ae [a,b,c,d,e,f])=true from rfl,Av,Zf (by simp),Aa];unfold G4 Si;simp only;rw[Zc];by_cases h1:((e.toNat*256+f.toNat:Nat):Int)=(crc [a,b,c,d]:Nat)
  case neg=>rw[decide_eq_false h1,Ac,Aa,Bd,Ad,if_neg (fun h=>h1 h.1)]
  rw[decide_eq_true h1,Ad,Aa,show iEq (4+2) (Ae [a,b,c,d,e,f])=true from rfl,Az,Ac,G9,Aa];by_cases h2:(1:Int)<=((a.toNat*256+b.toNat:Nat):Int)/\((a.toNat*256+b.toNat:Nat):Int)<=60000
  case neg=>rw[decide_eq_false h2,Bd,Ad,if_neg (fun h=>by simp at h)]
  rw[decide_eq_true h2,Az,Ac,G9,Aa];by_cases h3:(0:Int)<=((c.toNat*256+d.toNat:Nat):Int)/\((c.toNat*256+d.toNat:Nat):Int)<=30
  ·rw[decide_eq_true h3,Az,Ac,if_pos ⟨h1,by simp⟩]
  ·rw[decide_eq_false h3,Bd,Ad,if_neg (fun h=>by simp at h)]
 ·rw[Zw4 h6]
  -- whatever is read,the end is not reached,or there is too little
  cases p0:Bw (suf l 0) with
  | none=>simp only[hb,Aa,hsb,Bd,Ad]
  | some v0 =>
   simp only;rw[show (0:Int)+2=2 from rfl,hw,Aa];cases p2:Bw (suf l 2) with
   | none=>simp only[hsb,Aa,Bd,Ad]
   | some v2 =>
    simp only;rw[show (2:Int)+2=4 from rfl];unfold Na;simp only;rw[hw,Aa];cases p4:Bw (suf l 4) with
    | none=>simp only[Az,Ac,Aa,Bd,Ad]
    | some v4 =>
     have hlen:6<=l.length:=by
      obtain⟨n,q⟩:=v4;have:=(O6 p4).1;have:=congrArg List.length this;rw[show (4:Int)=((4:Nat):Int) from rfl,Ow]at this;simp [Bn]at this;omega
     simp only[Bd,Ad];rw[show Cp 0 4 (Ae l)=true from decide_eq_true (by simp only[Ai];omega),Av,Zf (by simp [A9];omega),Aa,show (4:Int)+2=6 from rfl,Eg (a:=6) (by simp only[Ai];omega)];cases iEq v4.1 _<;>simp only[Ad,Ac,Aa,Bd]
end
end Go.Vs
