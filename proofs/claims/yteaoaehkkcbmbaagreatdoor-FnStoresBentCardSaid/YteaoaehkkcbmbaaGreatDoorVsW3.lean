import Derived.Laws.Strings2
import Derived.Laws.Concat
import Derived.Test.YteaoaehkkcbmbaaGreatDoorVsW2
set_option linter.all false
namespace Go.Vs
variable [Glb]
def JQ:XC->Option (IntKind×Int)
 |.i k z=>match k with
  |.u8=>none
  |k=>some (k,z)
 |.y b=>some (.u8,Aj b)
 |_=>none
def GZ(k:IntKind)(z:Int):XC:=match k with
 |.u8=>.y (u8 z)
 |k=>.i k z
def JG(a b:IntKind):Bool:=decide (a=b)
def IJ(a n len:Nat):Bool:=decide (a+n<=len)
def fA:BinOp->Int->Bool
 |.shl,b=>Ck 0 b
 |.shr,b=>Ck 0 b
 |.quo,b=>AI b 0
 |.rem,b=>AI b 0
 |_,_=>true
def fB:BinOp->Bool
 |.shl=>false
 |.shr=>false
 |_=>true
def Vb:BinOp->IntKind->Int->Int->Option XC
 |.add,k,a,b=>some (GZ k (Au k a b))
 |.sub,k,a,b=>some (GZ k (Br k a b))
 |.mul,k,a,b=>some (GZ k (Fu k a b))
 |.quo,k,a,b=>some (GZ k (Zht k a b))
 |.rem,k,a,b=>some (GZ k (EX a b))
 |.and,k,a,b=>some (GZ k (Bg k a b))
 |.or,k,a,b=>some (GZ k (BM k a b))
 |.xor,k,a,b=>some (GZ k (JD k a b))
 |.andNot,k,a,b=>some (GZ k (iH k a b))
 |.shl,k,a,b=>some (GZ k (C9 k a b))
 |.shr,k,a,b=>some (GZ k (Cl k a b))
 |.eql,_,a,b=>some (.b (Ak a b))
 |.neq,_,a,b=>some (.b (AI a b))
 |.lss,_,a,b=>some (.b (Bb a b))
 |.leq,_,a,b=>some (.b (Ck a b))
 |.gtr,_,a,b=>some (.b (Cr a b))
 |.geq,_,a,b=>some (.b (Dk a b))
def WH:BinOp->List UInt8->List UInt8->Option XC
 |.eql,a,b=>some (.b (Dc a b))
 |.neq,a,b=>some (.b (Ap (Dc a b)))
 |.lss,a,b=>some (.b (FB a b))
 |.leq,a,b=>some (.b (nZ (FB a b) (Dc a b)))
 |.gtr,a,b=>some (.b (Ap (nZ (FB a b) (Dc a b))))
 |.geq,a,b=>some (.b (Ap (FB a b)))
 |_,_,_=>none
def rB:BinOp->Bool
 |.add=>true
 |_=>false
def small(a b:List UInt8):Bool:=decide (a.length+b.length<9223372036854775808)
def jA{β:Type}(d:BinOp)(x y:XC)(k:XC->Option β):Option β:=match x,y with
 |.s a,.s b=>match rB d with
  |true=>A3 (small a b) (k (.s (Ax a b)))
  |false=>match WH d a b with
   |some c=>k c
   |none=>none
 |x,y=>match JQ x,JQ y with
  |some (e,a),some (f,b)=>match JG e f||!fB d with
   |true=>A3 (fA d b) (match Vb d e a b with
    |some c=>k c
    |none=>none)
   |false=>none
  |_,_=>none
def Dj(r v:Nat)(p:Ao)(i:Nat):(t:Ty)->t.den->Nat->List XC
 |.I k,z,_=>[.i k z]
 |.Y,b,_=>[.y b]
 |.B,x,_=>[.b x]
 |.S,l,_=>[.s l]
 |.L t,d,c=>[.rf r v (p++[(i,c)]) 0 t d]
 |.H t,o,c=>[match o with|some d=>.rf r v (p++[(i,c)]) 0 t d|none=>.un]
 |.P a b,x,c=>Dj r v p i a x.1 c++Dj r v p i b x.2 (c+a.n)
def Jn(r v:Nat)(p:Ao)(i:Nat):(t:Ty)->t.den->Nat->List XC
 |.I k,z,_=>[.i k z]
 |.Y,b,_=>[.y b]
 |.B,x,_=>[.b x]
 |.S,l,_=>[.s l]
 |.L t,d,c=>[.rf r v (p++[(i,c)]) 0 t d]
 |.H t,o,c=>[.rf r v (p++[(i,c)]) 0 t (JB o)]
 |.P a b,x,c=>Jn r v p i a x.1 c++Jn r v p i b x.2 (c+a.n)
def IK:(t:Ty)->t.den->List Bool
 |.H _,o=>[Ik o]
 |.P a b,x=>IK a x.1++IK b x.2
 |.I _,_=>[true]
 |.Y,_=>[true]
 |.B,_=>[true]
 |.S,_=>[true]
 |.L _,_=>[true]
def Nh:(t:Ty)->t.den->List (Option Bool)
 |.H _,o=>[some (Ik o)]
 |.P a b,x=>Nh a x.1++Nh b x.2
 |.I _,_=>[none]
 |.Y,_=>[none]
 |.B,_=>[none]
 |.S,_=>[none]
 |.L _,_=>[none]
def Oy{β:Type}:List (Option Bool)->Option β->Option β
 |[],k=>k
 |none::l,k=>Oy l k
 |some b::l,k=>A3 b (Oy l k)
def Sa:List Bool->Bool
 |[]=>true
 |true::l=>Sa l
 |false::_=>false
def NL{β:Type}(R:AK)(c:XC)(k:(t:Ty)->List t.den->Option β):Option β:=match c with
 |.rw r=>match lk R r with
  |some (_,.tr t a)=>k t a
  |some (_,.im t a)=>k t a
  |_=>none
 |.rv r b n=>match lk R r with
  |some (_,.tr t a)=>A3 (IJ b n a.length) (k t (BA n (E9 b a)))
  |some (_,.im t a)=>A3 (IJ b n a.length) (k t (BA n (E9 b a)))
  |_=>none
 |.rf r v p b t d=>match Dp R r v with
  |true=>k t d
  |false=>none
 |_=>none
def je{β:Type}(t:Bool)(a b:XV)(k:XV->Option β):Option β:=match a,b with
 |.a (.c (.b x)),.a (.c (.b y))=>k (.a (.c (.b (cM t x y))))
 |.a (.c (.i d x)),.a (.c (.i e y))=>match JG d e with
  |true=>k (.a (.c (.i d (cM t x y))))
  |false=>none
 |a,b=>Ab t (k a) (k b)
def IE:XV->Option (List XC)
 |.a (.c x)=>some [x]
 |.a (.ag b)=>some b
 |_=>none
def S1(X:XSt):List XC->List (Nat×Nat×Opd)->Option (List XC)
 |b,[]=>some b
 |b,(a,d,x)::c=>match IE (X.opd x) with
  |some e=>match Nat.beq e.length d&&Nat.ble (a+d) b.length with
   |true=>S1 X (b.take a++(e++b.drop (a+d))) c
   |false=>none
  |none=>none
def KY(x:XV):Option Int:=match x with
 |.a (.c c)=>match JQ c with
  |some (_,z)=>some z
  |none=>none
 |_=>none
def VX:List Int->Nat
 |[]=>0
 |_::l=>Nat.succ (VX l)
def Ko:List XC->Option (List Int)
 |[]=>some []
 |.i .i64 z::l=>match Ko l with
  |some m=>some (z::m)
  |none=>none
 |_::_=>none
def jC{β:Type}(R:AK)(c:XC)(k:Int->Option β):Option β:=match c with
 |.nl _=>k 0
 |.rw r=>match lk R r with
  |some (_,.tr t a)=>k (Am a)
  |some (_,.im t a)=>k (Am a)
  |_=>none
 |.rv r b n=>match lk R r with
  |some (_,.tr t a)=>k (Int.ofNat n)
  |some (_,.im t a)=>k (Int.ofNat n)
  |_=>none
 |.rf r v p b t d=>match Dp R r v with
  |true=>k (Am d)
  |false=>none
 |_=>none
def JO:Option Int->Nat
 |none=>0
 |some l=>A9 l
def kq{β:Type}(R:AK)(d:Nat)(c:XC)(l:Option Int)(h:Option Int)(k:XC->Option β):Option β:=match c with
 |.rw r=>match lk R r with
  |some (_,.tr t a)=>match Nat.beq d t.n with
   |true=>A3 (De (l.getD 0) (h.getD (Am a)) (Am a)) (k (.rv r (JO l) (A9 (h.getD (Am a))-JO l)))
   |false=>none
  |some (v,.im t a)=>match Nat.beq d t.n with
   |true=>A3 (De (l.getD 0) (h.getD (Am a)) (Am a)) (k (.rf r v [] (JO l) t (BA (A9 (h.getD (Am a))-JO l) (E9 (JO l) a))))
   |false=>none
  |_=>none
 |.rv r e n=>match lk R r with
  |some (_,.tr t a)=>match Nat.beq d t.n with
   |true=>A3 (De (l.getD 0) (h.getD (Int.ofNat n)) (Int.ofNat n)) (k (.rv r (e+JO l) (A9 (h.getD (Int.ofNat n))-JO l)))
   |false=>none
  |_=>none
 |.rf r v p e t b=>match Dp R r v&&Nat.beq d t.n with
  |true=>A3 (De (l.getD 0) (h.getD (Am b)) (Am b)) (k (.rf r v p (e+JO l) t (BA (A9 (h.getD (Am b))-JO l) (E9 (JO l) b))))
  |false=>none
 |_=>none
def iR{β:Type}(R:AK)(d:Nat)(c:XC)(z:Int)(k:XC->Option β):Option β:=match c with
 |.rw r=>match lk R r with
  |some (v,.tr t a)=>match Nat.beq t.n d with
   |true=>Aa (idx a z) λe=>k (.pe r v [] (A9 z) 0 t e)
   |false=>none
  |some (v,.im t a)=>match Nat.beq t.n d with
   |true=>Aa (idx a z) λe=>k (.pe r v [] (A9 z) 0 t e)
   |false=>none
  |_=>none
 |.rv r b n=>match lk R r with
  |some (v,.tr t a)=>match Nat.beq t.n d with
   |true=>A3 (Bb z (Int.ofNat n)) (Aa (idx (E9 b a) z) λe=>k (.pe r v [] (b+A9 z) 0 t e))
   |false=>none
  |_=>none
 |.rf r v p b t f=>match Dp R r v&&Nat.beq t.n d with
  |true=>Aa (idx f z) λe=>k (.pe r v p (b+A9 z) 0 t e)
  |false=>none
 |_=>none
def Nw(X:XSt):Option Opd->Option (Option Int)
 |none=>some none
 |some x=>match KY (X.opd x) with
  |some z=>some (some z)
  |none=>none
def na(a:List (Nat×XC)):Option (List Int):=match Nat.ble 16 a.length with
 |true=>Ko (a.map (·.2))
 |false=>none
def aO{β:Type}(l:List UInt8):Nat->Nat->(List XC->Option β)->Option β
 |_,0,k=>k []
 |o,m+1,k=>Aa (idx l (Int.ofNat o)) λy=>aO l (o+1) m λa=>k (.y y::a)
def Se:List XV->Option (List XA)
 |[]=>some []
 |.a x::l=>match Se l with
  |some r=>some (x::r)
  |none=>none
 |_=>none
def Ex{β:Type}(X:XSt)(i:I)(k:XV->Option β):Option β:=match i with
 |.mv x=>k (X.opd x)
 |.pick c a b=>match X.opd c with
  |.a (.c (.b t))=>je t (X.opd a) (X.opd b) k
  |_=>none
 |.load n x=>match X.opd x with
  |.a (.c (.pe r v p i c t e))=>match Dp X.roots r v with
   |true=>match n with
    |none=>Oy (((Nh t e).drop c).take 1) (match (Jn r v p i t e 0)[c]? with
     |some y=>k (.a (.c y))
     |none=>none)
    |some m=>match Nat.ble (c+m) t.n with
     |true=>Oy (((Nh t e).drop c).take m) (k (.a (.ag (((Jn r v p i t e 0).drop c).take m))))
     |false=>none
   |false=>none
  |.a (.c (.pb r c))=>match lk X.roots r with
   |some (_,.bx d)=>match n with
    |none=>match na d with
     |some l=>Aa (idx l (Int.ofNat c)) λe=>k (.a (.c (.i .i64 e)))
     |none=>match d[c]? with
      |some y=>k (.a (.c y.2))
      |none=>none
    |some m=>match Nat.ble (c+m) d.length with
     |true=>k (.a (.ag (((d.drop c).take m).map (·.2))))
     |false=>none
   |_=>none
  |.a (.c (.lf (.pointer (some ⟨b,o,none⟩))))=>match aP Glb.tab b with
   |some l=>match n with
    |none=>Aa (idx l (Int.ofNat o)) λy=>k (.a (.c (.y y)))
    |some m=>aO l o m λd=>k (.a (.ag d))
   |none=>none
  |_=>none
 |.nilc x=>match X.opd x with
  |.a (.c (.pe r v p i c t e))=>match Dp X.roots r v with
   |true=>k (.a (.c (.pe r v p i c t e)))
   |false=>none
  |.a (.c (.pb r c))=>match lk X.roots r with
   |some (_,.bx _)=>k (.a (.c (.pb r c)))
   |_=>none
  |_=>none
 |.bin C x y=>match X.opd x,X.opd y with
  |.a (.c u),.a (.c v)=>jA C u v λc=>k (.a (.c c))
  |_,_=>none
 |.beq neg x y=>match X.opd x,X.opd y with
  |.a (.c (.b u)),.a (.c (.b v))=>k (.a (.c (.b (match neg with|true=>Zi u v|false=>MT u v))))
  |_,_=>none
 |.aeq neg n x y=>match X.opd x,X.opd y with
  |.a (.ag d),.a (.ag G)=>match Ko d,Ko G with
   |some D,some E=>match Nat.beq (VX D) n&&Nat.beq (VX E) n with
    |true=>k (.a (.c (.b (match neg with|true=>Ap (Xm D E)|false=>Xm D E))))
    |false=>none
   |_,_=>none
  |_,_=>none
 |.un C x=>match C,X.opd x with
  |.not,.a (.c (.b u))=>k (.a (.c (.b (Ap u))))
  |.neg,.a (.c (.i B z))=>k (.a (.c (GZ B (ql B z))))
  |_,_=>none
 |.conv B x=>match KY (X.opd x) with
  |some z=>k (.a (.c (GZ B (Az B z))))
  |none=>none
 |.b2s x=>match X.opd x with
  |.a (.c (.nl _))=>k (.a (.c (.s [])))
  |.a (.c c)=>NL X.roots c λt F=>match t,F with
   |.Y,F=>k (.a (.c (.s F)))
   |_,_=>none
  |_=>none
 |.slc J x h j=>match X.opd x,Nw X h,Nw X j with
  |.a (.c c),some h,some j=>kq X.roots J c h j λc=>k (.a (.c c))
  |_,_,_=>none
 |.ssl x h j=>match X.opd x,Nw X h,Nw X j with
  |.a (.c (.s l)),some h,some j=>match h.isSome||j.isSome with
   |true=>A3 (De (h.getD 0) (j.getD (Am l)) (Am l)) (k (.a (.c (.s (BA (A9 (j.getD (Am l))-JO h) (E9 (JO h) l))))))
   |false=>none
  |_,_,_=>none
 |.fld g n x=>match X.opd x with
  |.a (.ag d)=>match n with
   |none=>match d[g]? with
    |some y=>k (.a (.c y))
    |none=>none
   |some m=>match Nat.ble (g+m) d.length with
    |true=>k (.a (.ag ((d.drop g).take m)))
    |false=>none
  |_=>none
 |.fad g x=>match X.opd x with
  |.a (.c (.pe r v p i c t e))=>match Dp X.roots r v with
   |true=>k (.a (.c (.pe r v p i (c+g) t e)))
   |false=>none
  |.a (.c (.pb r c))=>match lk X.roots r with
   |some (_,.bx _)=>k (.a (.c (.pb r (c+g))))
   |_=>none
  |.a (.c (.lf (.pointer (some ⟨b,o,none⟩))))=>k (.a (.c (.lf (.pointer (some ⟨b,o+g,none⟩)))))
  |_=>none
 |.iad w x i=>match X.opd x,KY (X.opd i) with
  |.a (.c c),some z=>iR X.roots w c z λc=>k (.a (.c c))
  |_,_=>none
 |.iaa len w x i=>match X.opd x,KY (X.opd i) with
  |.a (.c (.pb r c)),some z=>match lk X.roots r with
   |some (_,.bx _)=>A3 (Ck 0 z) (A3 (Bb z (Int.ofNat len)) (k (.a (.c (.pb r (c+A9 z*w))))))
   |_=>none
  |.a (.c (.lf (.pointer (some ⟨b,o,none⟩)))),some z=>A3 (Ck 0 z) (A3 (Bb z (Int.ofNat len)) (k (.a (.c (.lf (.pointer (some ⟨b,o+A9 z*w,none⟩)))))))
  |_,_=>none
 |.idx x i=>match X.opd x,KY (X.opd i) with
  |.a (.c (.s l)),some z=>Aa (idx l z) λb=>k (.a (.c (.y b)))
  |_,_=>none
 |.ixa len none w x i=>match X.opd x,KY (X.opd i) with
  |.a (.ag d),some z=>match Ko d,Nat.beq d.length len&&Nat.beq w 1 with
   |some l,true=>Aa (idx l z) λe=>k (.a (.c (.i .i64 e)))
   |_,_=>none
  |_,_=>none
 |.ext i x=>match X.opd x with
  |.tp H=>match H[i]? with
   |some y=>k (.a y)
   |none=>none
  |_=>none
 |.len x=>match X.opd x with
  |.a (.c c)=>jC X.roots c λz=>k (.a (.c (.i .i64 z)))
  |_=>none
 |.sid x=>match X.opd x with
  |.a (.c (.s l))=>k (.a (.c (.s l)))
  |_=>none
 |.sln x=>match X.opd x with
  |.a (.c (.s l))=>k (.a (.c (.i .i64 (Am l))))
  |_=>none
 |.build zero q=>match zero.all LO with
  |true=>match S1 X (zero.map Lh) q with
   |some d=>k (.a (.ag d))
   |none=>none
  |false=>none
 |.mkf f A=>match Se (A.map X.opd) with
  |some d=>k (.fn f d)
  |none=>none
 |_=>none
end Go.Vs
namespace Go.Vs
variable [Glb]
def Mn{R:AK}{c:XC}{k:IntKind}{z:Int}(h:JQ c=some (k,z)):cC R c=.lf (.int k z):=by
 cases c with
 |i a d=>cases a<;>simp only[JQ,Ac,A5,reduceCtorEq]at h<;>(obtain⟨rfl,rfl⟩:=h;rfl)
 |y b=>simp only[JQ,Ac,A5]at h;obtain⟨rfl,rfl⟩:=h;rfl
 |_=>simp[JQ]at h
def jO{R:AK}{a b:Nat}{k:IntKind}{z:Int}:Bj R a b (GZ k z):=by cases k<;>trivial
def jN{R:AK}{k:IntKind}{z:Int}(h:k=.u8->0<=z/\z<256):cC R (GZ k z)=.lf (.int k z):=by
 cases k<;>try rfl
 have:=h rfl;simp only[GZ,cC,u8];congr 2;rw[UInt8.toNat_ofNat',KH (by omega)];omega
def Zp8(z:Int):0<=IntKind.u8.wrap z/\IntKind.u8.wrap z<256:=by rw[IntKind.wrap_u8];omega
def jR{R:AK}{k:IntKind}{z:Int}:cC R (GZ k (k.wrap z))=.lf (.int k (k.wrap z)):=jN λe=>by subst e;exact Zp8 z
def Zoi{c:XC}{k:IntKind}{z:Int}(h:JQ c=some (k,z)):k=.u8->0<=z/\z<256:=by
 intro e;cases c with
 |i a d=>cases a<;>simp only[JQ,Ac,A5,reduceCtorEq]at h<;>(obtain⟨rfl,rfl⟩:=h;cases e)
 |y b=>
  simp only[JQ,Ac,A5]at h;rw[<-h.2];have:=b.toNat_lt;simp only[Aj];omega
 |_=>simp[JQ]at h
def ST{X:XSt}{S:St}(h:SimX X S){r:Nat}{p:Ao}{n:Nat×List (List D)}(d:D5 X.roots r p=some n):EA S.roots r p=some n:=by
 unfold D5 at d;unfold EA;split at d
 .rename_i s t g f;obtain⟨y,e,c⟩:=h.roots r s _ f _ rfl;cases y with
  |tr a b=>obtain⟨rfl,rfl⟩:=c;rw[e];exact d
  |_=>exact c.elim
 .rename_i s t g f;obtain⟨y,e,c⟩:=h.roots r s _ f _ rfl;cases y with
  |im a b=>obtain⟨rfl,rfl⟩:=c;rw[e];exact d
  |_=>exact c.elim
 simp at d
def Wg{R:AK}{r:Nat}{p:Ao}{n:Nat×List (List D)}(a:D5 R r p=some n)(i c:Nat):
  D5 R r (p++[(i,c)])=match (n.2[i]?).bind (·[c]?) with|some (.sl d b)=>some (d,b)|_=>none:=by
 unfold D5 at a ⊢;split at a
 .rename_i s t f e;exact bI a i c
 .rename_i s t f e;exact bI a i c
 simp at a
def Ot{X:XSt}{S:St}(h:SimX X S){r s:Nat}{b:List (Nat×XC)}(f:lk X.roots r=some (s,.bx b)):∃a,get S.roots r=some (.bx a)/\Ai Ba a (b.map λe=>cC X.roots e.2):=by
 obtain⟨y,d,c⟩:=h.roots r s _ f _ rfl;cases y with
 |bx a=>exact⟨a,d,c⟩
 |_=>exact c.elim
def v8(r:Nat)(p:Ao)(i:Nat):∀(a b:List D) (c:Nat),AM r p i c (a++b)=AM r p i c a++AM r p i (c+a.length) b
 |[],b,c=>rfl
 |x::a,b,c=>by
  simp only[A1,AM,v8 r p i a b (c+1),Aq];rw[show c+1+a.length=c+(a.length+1) by omega]
def fS{R:AK}{r v:Nat}(d:Dp R r v=true)(p:Ao)(i:Nat):∀(t:Ty) (x:t.den) (c:Nat),(Dj r v p i t x c).map (cC R)=AM r p i c (Al t x)
 |.I _,_,_=>rfl
 |.Y,_,_=>rfl
 |.B,_,_=>rfl
 |.S,_,_=>rfl
 |.L t,e,c=>by simp[Dj,Al,AM,Be,cC,d]
 |.H t,none,c=>rfl
 |.H t,some e,c=>by simp[Dj,Al,AM,Be,cC,d]
 |.P a b,x,c=>by
  simp only[Dj,C2,fS d p i a,fS d p i b,Al,v8,Cv]
def Kg(r v:Nat)(p:Ao)(i:Nat):∀(t:Ty) (x:t.den) (c:Nat),(Dj r v p i t x c).length=t.n
 |.I _,_,_=>rfl
 |.Y,_,_=>rfl
 |.B,_,_=>rfl
 |.S,_,_=>rfl
 |.L t,d,c=>rfl
 |.H t,d,c=>rfl
 |.P a b,x,c=>by simp only[Dj,Cb,Kg r v p i a,Kg r v p i b,Ty.n]
def OI:∀(t:Ty) (x:t.den),(IK t x).length=t.n
 |.I _,_=>rfl
 |.Y,_=>rfl
 |.B,_=>rfl
 |.S,_=>rfl
 |.L _,_=>rfl
 |.H _,_=>rfl
 |.P a b,x=>by simp only[IK,Cb,OI a,OI b,Ty.n]
def aT:∀(t:Ty) (x:t.den),(Nh t x).map (·.getD true)=IK t x
 |.I _,_=>rfl
 |.Y,_=>rfl
 |.B,_=>rfl
 |.S,_=>rfl
 |.L _,_=>rfl
 |.H _,_=>rfl
 |.P a b,x=>by simp only[Nh,C2,aT a,aT b,IK]
def Sm{β:Type}:∀{l:List (Option Bool)}{k:Option β}{r:β},Oy l k=some r->Sa (l.map (·.getD true))=true/\k=some r
 |[],k,r,h=>⟨rfl,h⟩
 |none::l,k,r,h=>Sm (l:=l) h
 |some b::l,k,r,h=>by
  simp only[Oy]at h;obtain⟨a,h⟩:=Es h;subst a;exact Sm (l:=l) h
def iF{t:Ty}{x:t.den}{c m:Nat}:(((Nh t x).drop c).take m).map (·.getD true)=((IK t x).drop c).take m:=by
 rw[Fp,F4,aT]
def Sk(r v:Nat)(p:Ao)(i:Nat):∀(t:Ty) (x:t.den) (c:Nat),(Jn r v p i t x c).length=t.n
 |.I _,_,_=>rfl
 |.Y,_,_=>rfl
 |.B,_,_=>rfl
 |.S,_,_=>rfl
 |.L t,d,c=>rfl
 |.H t,d,c=>rfl
 |.P a b,x,c=>by simp only[Jn,Cb,Sk r v p i a,Sk r v p i b,Ty.n]
def UX:∀{l:List Bool},Sa l=true->∀n:Nat,(l[n]?).getD true=true
 |[],_,n=>by simp
 |true::l,h,0=>by simp
 |true::l,h,n+1=>by simpa using UX (l:=l) h n
 |false::l,h,n=>by simp[Sa]at h
def Zy(r v:Nat)(p:Ao)(i:Nat):∀(t:Ty) (x:t.den) (c j:Nat),((IK t x)[j]?).getD true=true->(Jn r v p i t x c)[j]?= (Dj r v p i t x c)[j]?
 |.I _,_,_,_,_=>rfl
 |.Y,_,_,_,_=>rfl
 |.B,_,_,_,_=>rfl
 |.S,_,_,_,_=>rfl
 |.L t,e,c,_,_=>rfl
 |.H t,some e,c,_,_=>rfl
 |.H t,none,c,0,h=>by simp[IK,Ik]at h
 |.H t,none,c,j+1,h=>by simp[Jn,Dj]
 |.P a b,x,c,j,h=>by
  simp only[Jn,Dj,IK]at h ⊢;by_cases d:j<a.n
  .rw[E3 (by rw[OI];exact d)]at h;rw[E3 (by rw[Sk];exact d),E3 (by rw[Kg];exact d),Zy r v p i a x.1 c j h]
  rw[Dh (by rw[OI];omega),OI]at h;rw[Dh (by rw[Sk];omega),Dh (by rw[Kg];omega),Sk,Kg,Zy r v p i b x.2 _ _ h]
def fR(r v:Nat)(p:Ao)(i:Nat)(t:Ty)(x:t.den)(b c m:Nat)(h:Sa (((IK t x).drop c).take m)=true):((Jn r v p i t x b).drop c).take m=((Dj r v p i t x b).drop c).take m:=by
 refine MA λj=>?_;have d:=UX h j;rw[EM,EM];rw[EM]at d;by_cases a:j<m
 .rw[Af a,Af a,F2,F2];rw[Af a,F2]at d;exact Zy r v p i t x b (c+j) d
 rw[Ae a,Ae a]
def Z1{R:AK}{nx st r v:Nat}(m:r<nx)(o:v<st){p:Ao}{i z:Nat}{l:List (List D)}{e:List D}(k:Dp R r v=true->D5 R r p=some (z,l)/\l[i]?= some e):∀(t:Ty) (x:t.den) (c:Nat),(∀(j:Nat) (d:D),(Al t x)[j]?= some d->e[c+j]?= some d)->∀y∈Dj r v p i t x c,Bj R nx st y
 |.I _,_,_,_,y,f=>by simp only[Dj,Db]at f;subst f;trivial
 |.Y,_,_,_,y,f=>by simp only[Dj,Db]at f;subst f;trivial
 |.B,_,_,_,y,f=>by simp only[Dj,Db]at f;subst f;trivial
 |.S,_,_,_,y,f=>by simp only[Dj,Db]at f;subst f;trivial
 |.L t,w,c,h,y,f=>by
  simp only[Dj,Db]at f;subst f;refine⟨m,o,λu=>?_⟩;obtain⟨q,s⟩:=k u;have g:=Wg q i c;simp only[s,DF]at g;rw[show e[c]?= some (.sl t.n (w.map (Al t))) from h 0 _ rfl]at g;exact⟨_,g,by simp,by rw[AJ,F3 (by simp)]⟩
 |.H t,none,c,h,y,f=>by
  simp only[Dj,Db]at f;subst f;trivial
 |.H t,some w,c,h,y,f=>by
  simp only[Dj,Db]at f;subst f;refine⟨m,o,λu=>?_⟩;obtain⟨q,s⟩:=k u;have g:=Wg q i c;simp only[s,DF]at g;rw[show e[c]?= some (.sl t.n (w.map (Al t))) from h 0 _ rfl]at g;exact⟨_,g,by simp,by rw[AJ,F3 (by simp)]⟩
 |.P a b,x,c,h,y,f=>by
  simp only[Dj,C7]at f;rcases f with f|f
  .refine Z1 m o k a x.1 c (λj d hd=>h j d ?_) y f;simp only[Al];rw[E3 (CY.1 hd).1];exact hd
  refine Z1 m o k b x.2 _ (λj d hd=>?_) y f;rw[show c+a.n+j=c+(a.n+j) by omega];refine h _ d ?_;simp only[Al];rw[Dh (by rw[Cv];omega),Cv,dl];exact hd
def lv{β:Type}{R:AK}{q A:Nat}{c:XC}{k:(t:Ty)->List t.den->Option β}{j:β}(i:Bj R q A c)(h:NL R c k=some j):
  ∃(t:Ty) (e:List t.den) (r:Nat) (p:Ao) (d:Nat) (l:List (List D)),k t e=some j/\r<q/\cC R c=.rf r p t.n d e.length/\D5 R r p=some (t.n,l)/\d+e.length<=l.length/\(l.drop d).take e.length=e.map (Al t):=by
 unfold NL at h;split at h
 .rename_i r;split at h
  .rename_i s t f b;exact⟨t,f,r,[],0,_,h,i,by simp[cC,b],by simp only[D5,b];rfl,by simp,by rw[AJ,F3 (by simp)]⟩
  .rename_i s t f b;exact⟨t,f,r,[],0,_,h,i,by simp[cC,b],by simp only[D5,b];rfl,by simp,by rw[AJ,F3 (by simp)]⟩
  simp at h
 .rename_i r d n;split at h
  .rename_i s t f b;obtain⟨g,m⟩:=Es h;simp only[IJ,AA]at g;have a:(BA n (E9 d f)).length=n:=by simp[BA,E9];omega
   refine⟨t,_,r,[],d,_,m,i, ?_,by simp only[D5,b];rfl,by rw[a];simpa using g,by rw[a];simp[BA,E9]⟩;rw[a];simp[cC,b]
  .rename_i s t f b;obtain⟨g,m⟩:=Es h;simp only[IJ,AA]at g;have a:(BA n (E9 d f)).length=n:=by simp[BA,E9];omega
   refine⟨t,_,r,[],d,_,m,i, ?_,by simp only[D5,b];rfl,by rw[a];simpa using g,by rw[a];simp[BA,E9]⟩;rw[a];simp[cC,b]
  simp at h
 .rename_i r v p d t e;split at h
  .rename_i o;obtain⟨u,B,w⟩:=i;obtain⟨l,x,y,z⟩:=w o;exact⟨t,e,r,p,d,l,h,u,by simp[cC,o],x,y,z⟩
  simp at h
 simp at h
def Vh{R:AK}{y:V}{x:XV}(h:CZ y (cV R x)){e:List XC}(b:IE x=some e):∃d,Ov y=some d/\Ai Ba d (e.map (cC R))/\∀g:List C,True:=by
 cases x with
 |a x=>
  cases y with
  |a y=>
   cases x with
   |c x=>
    cases y with
    |c y=>simp only[IE,Ac]at b;subst b;exact⟨[y],rfl,⟨h,trivial⟩,λ_=>trivial⟩
    |ag _=>exact h.elim
   |ag f=>
    cases y with
    |c y=>exact h.elim
    |ag d=>simp only[IE,Ac]at b;subst b;exact⟨d,rfl,h,λ_=>trivial⟩
  |_=>exact h.elim
 |_=>simp[IE]at b
def J4{n:Nat}:∀{b a:List C},Ai Ba b a->Ai Ba (b.drop n) (a.drop n):=by
 induction n with
 |zero=>exact λh=>h
 |succ n c=>intro b a h;match b,a,h with
  |[],[],_=>trivial
  |_::b,_::a,h=>exact c h.2
def JU{n:Nat}:∀{b a:List C},Ai Ba b a->Ai Ba (b.take n) (a.take n):=by
 induction n with
 |zero=>intro b a _;trivial
 |succ n c=>intro b a h;match b,a,h with
  |[],[],_=>trivial
  |_::b,_::a,h=>exact⟨h.1,c h.2⟩
def Mt:∀{d c b a:List C},Ai Ba d c->Ai Ba b a->Ai Ba (d++b) (c++a)
 |[],[],_,_,_,h=>h
 |_::d,_::c,_,_,h,e=>⟨h.1,Mt h.2 e⟩
 |[],_::_,_,_,h,_=>h.elim
 |_::_,[],_,_,h,_=>h.elim
def gn{X:XSt}{S:St}(r:XOk X)(h:SimX X S):∀(b:List (Nat×Nat×Opd)) (k:List XC) (j:List C) (d:List XC),Ai Ba j (k.map (cC X.roots))->(∀c∈k,Bj X.roots X.next X.stamp c)->S1 X k b=some d ->
  ∃o,Ie S j b=some o/\Ai Ba o (d.map (cC X.roots))/\(∀c∈d,Bj X.roots X.next X.stamp c)
 |[],k,j,d,l,n,f=>by
  simp only[S1,Ac]at f;subst f;exact⟨j,rfl,l,n⟩
 |(m,A,x)::b,k,j,d,l,n,f=>by
  simp only[S1]at f;split at f
  .rename_i D i;split at f
   .rename_i p;simp only[A6]at p;have w:=B6 p.1;have y:=AS p.2;obtain⟨B,u,q,_⟩:=Vh (HJ h x) i;have z:=q.length;have l2:=l.length;simp only[B3]at z l2;have g:=Gy r x;have:=gn r h b _ (j.take m++(B++j.drop (m+A))) d ?_ ?_ f
    .obtain⟨o,s,t⟩:=this;refine⟨o, ?_,t⟩;simp only[Ie,u];rw[Af ⟨by omega,by omega⟩];exact s
    .simp only[C2,Fp,F4];exact Mt (JU l) (Mt q (J4 l))
    intro c e;simp only[C7]at e;rcases e with e|e|e
    .exact n c (G4 e)
    .generalize X.opd x=v at i g;cases v with
     |a v=>cases v with
      |c v=>simp only[IE,Ac]at i;subst i;simp only[Db]at e;subst e;exact g
      |ag v=>simp only[IE,Ac]at i;subst i;exact g c e
     |_=>simp[IE]at i
    exact n c (Gm e)
   simp at f
  simp at f
def Nl{X:XSt}{S:St}(h:SimX X S){x:Opd}{z:Int}(b:KY (X.opd x)=some z):∃k,S.opd x=.a (.c (.lf (.int k z))):=by
 unfold KY at b;split at b
 .rename_i c e;split at b
  .rename_i k f d;simp only[Ac]at b;subst b;refine⟨k, ?_⟩;rw[BT h e (by rw[Mn d];simp),Mn d]
  simp at b
 simp at b
def SR{X:XSt}{S:St}(h:SimX X S){x:Option Opd}{z:Option Int}(b:Nw X x=some z):(x=none/\z=none)\/∃k w,z=some w/\x.map S.opd=some (.a (.c (.lf (.int k w)))):=by
 cases x with
 |none=>simp only[Nw,Ac]at b;exact .inl ⟨rfl,b.symm⟩
 |some x=>
  simp only[Nw]at b;split at b
  .rename_i w e;simp only[Ac]at b;subst b;obtain⟨k,d⟩:=Nl h e;exact .inr ⟨k,w,rfl,by simp[d]⟩
  simp at b
def gm(l:List UInt8)(a b:Nat):(⟨l.toArray⟩:ByteArray).extract a b=⟨((l.drop a).take (b-a)).toArray⟩:=ByteArray.extract_mk l a b
def QZ(l:List UInt8):(⟨l.toArray⟩:ByteArray).size=l.length:=rfl
def Zn2(l:List UInt8)(n:Nat):(⟨l.toArray⟩:ByteArray)[n]?= l[n]?:=by
 by_cases h:n<l.length
 .rw[BW h,ByteArray.getElem?_lt' _ _ h];rfl
 rw[KF (by omega),ByteArray.getElem?_ge' _ _ h]
def Zn1(a b:List UInt8):(⟨a.toArray⟩:ByteArray)++⟨b.toArray⟩=⟨(a++b).toArray⟩:=ByteArray.mk_append_mk a b
def Zn3(a:List UInt8):(⟨a.toArray⟩:ByteArray).toList=a:=ByteArray.toList_mk a
end Go.Vs
namespace Go.Vs
variable [Glb]
def Ok{β:Type}(X:XSt)(S:St)(i:I)(k:XV->Option β)(a:β):Prop:=
 ∃b,k b=some a/\Dt X.roots X.next X.stamp b/\∃v,CZ v (cV X.roots b)/\∀K:V->Prop,K v->ev S K i
section
variable {β:Type} {X:XSt} {S:St} {out:β}
def D7{i:I}{k:XV->Option β}{c:XC}(b:k (.a (.c c))=some out)(d:Bj X.roots X.next X.stamp c)(e:∀K:V->Prop,K (.a (.c (cC X.roots c)))->ev S K i):Ok X S i k out:=
 ⟨_,b,d,.a (.c (cC X.roots c)),Ba.refl _,e⟩
def Zoh{a b:Int}(d:0<=a/\a<256):0<=a.tmod b/\a.tmod b<256:=by
 have e:=Int.tmod_nonneg b d.1;have f:a.tmod b<=a:=by
  rw[Int.tmod_def];have:=Int.le_of_lt_add_one (a:=0) (b:=a) (by omega);have g:0<=b*a.tdiv b:=by
   rcases Int.le_total 0 b with c|c
   .exact Int.mul_nonneg c (Int.tdiv_nonneg d.1 c)
   exact Int.mul_nonneg_of_nonpos_of_nonpos c (Int.tdiv_nonpos_of_nonneg_of_nonpos d.1 c)
  omega
 omega
def Zbo{a:Int}{n:Nat}(b:0<=a/\a<256):0<=a.fdiv (2^n)/\a.fdiv (2^n)<256:=by
 have c:(0:Int)<2^n:=Int.pow_pos (by omega);rw[dm _ (dn c)];exact⟨Int.ediv_nonneg b.1 (dn c),Int.lt_of_le_of_lt (Int.ediv_le_self _ b.1) b.2⟩
def Znf{R:AK}{d:BinOp}{a b:List UInt8}{c:XC}(h:WH d a b=some c):∃r,LR d (.string ⟨a.toArray⟩) (.string ⟨b.toArray⟩)=some r/\cC R c=.lf r:=by
 cases d<;>simp only[WH,Ac,reduceCtorEq]at h<;>(subst h;refine⟨_,rfl, ?_⟩;simp only[Zn3];rfl)
def xn{R:AK}{d:BinOp}{f k:IntKind}{a b:Int}{c:XC}(i:(JG f k||!fB d)=true)(g:fA d b=true)(j:f=.u8->0<=a/\a<256)(h:Vb d f a b=some c):∃r,LR d (.int f a) (.int k b)=some r/\cC R c=.lf r:=by
 cases d<;>simp only[Vb,Ac,reduceCtorEq]at h<;>subst h<;>simp only[fA,Ck,AI,DN,DO,AA]at g <;>
  simp only[fB,JG,Od,RH,Bool.or_false,dg,AA]at i<;>(try subst i)<;>simp only[LR,BF,g,not_false_eq_true,and_self]
 all_goals first|refine⟨_,rfl, ?_⟩|refine⟨_,Af ⟨trivial,g⟩, ?_⟩
 all_goals first
  |exact jR
  |rfl
  |exact jN λe=>Zoh (j e)
  |exact jN λe=>Zbo (j e)
def xm{R:AK}{f g:Nat}{d:BinOp}{e:IntKind}{a b:Int}{c:XC}(h:Vb d e a b=some c):Bj R f g c:=by
 cases d<;>simp only[Vb,Ac,reduceCtorEq]at h<;>subst h<;>first|exact jO|trivial
def Zne{R:AK}{e f:Nat}{d:BinOp}{a b:List UInt8}{c:XC}(h:WH d a b=some c):Bj R e f c:=by
 cases d<;>simp only[WH,Ac,reduceCtorEq]at h<;>subst h<;>trivial
def Zjw(t:XOk X)(j:SimX X S){n:BinOp}{x y:Opd}{u v:XC}{k:XV->Option β}(p:X.opd x=.a (.c u))(q:X.opd y=.a (.c v))(h:jA n u v (λc=>k (.a (.c c)))=some out):Ok X S (.bin n x y) k out:=by
 unfold jA at h;split at h
 .rename_i a b;have g:=BT j p (by simp[cC]);have i:=BT j q (by simp[cC]);split at h
  .rename_i m;obtain⟨d,e⟩:=Es h;simp only[small,AA]at d;refine D7 e trivial λK f=>?_;simp only[ev,g,i,cC];cases n<;>simp[rB]at m
   refine⟨_, ?_,f⟩;simp only[LR];rw[Af (by rw[QZ,QZ];exact d),Zn1];rfl
  split at h
  .rename_i c l;refine D7 h (Zne l) λK f=>?_;obtain⟨r,d,e⟩:=Znf (R:=X.roots) l;rw[e]at f;simp only[ev,g,i,cC];exact⟨r,d,f⟩
  simp at h
 split at h
 .rename_i w a z b d e;split at h
  .rename_i s;obtain⟨l,h⟩:=Es h;split at h
   .rename_i c o;have g:=BT j p (by rw[Mn d];simp);have i:=BT j q (by rw[Mn e];simp);rw[Mn d]at g;rw[Mn e]at i;refine D7 h (xm o) λK f=>?_;obtain⟨r,d,e⟩:=xn (R:=X.roots) s l (Zoi d) o;rw[e]at f;simp only[ev,g,i];exact⟨r,d,f⟩
   simp at h
  simp at h
 simp at h
def Xk{l h n:Int}(k:De l h n=true):0<=l/\l<=h/\h<=n:=by simpa[De] using k
def vE(l:Option Int):JO l=A9 (l.getD 0):=by cases l<;>rfl
def vB{α:Type}{ws:List α}{l h:Int}(k:0<=l/\l<=h/\h<=(ws.length:Int)):(BA (A9 h-A9 l) (E9 (A9 l) ws)).length=h.toNat-l.toNat:=by
 simp only[BA,E9,A9,EF,Di];omega
def ZX{j:Nat}{x:Opd}{i h:Option Opd}{r:Nat}{p:Ao}{o n:Nat}{e:Option Int}{f:Option Int}(g:S.opd x=.a (.c (.rf r p j o n)))(s:(i=none/\e=none)\/∃k w,e=some w/\i.map S.opd=some (.a (.c (.lf (.int k w)))))(q:(h=none/\f=none)\/∃k w,f=some w/\h.map S.opd=some (.a (.c (.lf (.int k w)))))
  (d:0<=e.getD 0/\e.getD 0<=f.getD n/\f.getD n<=n) {K:V->Prop} (b:K (.a (.c (.rf r p j (o+(e.getD 0).toNat) ((f.getD n).toNat-(e.getD 0).toNat))))):ev S K (.slc j x i h):=by
 rcases s with ⟨rfl,rfl⟩|⟨t,v,rfl,l⟩<;>rcases q with ⟨rfl,rfl⟩|⟨u,w2,rfl,m⟩
 .simp only[ev,g,H2,UI]at b ⊢;simpa using b
 .simp only[ev,g,H2,m,UI,Eg]at b d ⊢;exact⟨trivial,⟨by omega,d.2.2⟩,by simpa using b⟩
 .simp only[ev,g,H2,l,UI,Eg,Gn]at b d ⊢;exact⟨trivial,⟨d.1,d.2.1⟩,b⟩
 simp only[ev,g,l,m,Eg]at b d ⊢;exact⟨trivial,d,b⟩
def Znq(A:XOk X)(q:SimX X S){F:Nat}{x:Opd}{C B:Option Opd}{c:XC}{E D:Option Int}{k:XV->Option β}(y:X.opd x=.a (.c c))(P:Nw X C=some E)(O:Nw X B=some D)(h:kq X.roots F c E D (λc=>k (.a (.c c)))=some out):Ok X S (.slc F x C B) k out:=by
 have j:Bj X.roots X.next X.stamp c:=by have:=Gy A x;rw[y]at this;exact this
 have L:=SR q P;have H:=SR q O;unfold kq at h;simp only[vE]at h;split at h
 .rename_i r;split at h
  .rename_i s t w f;split at h
   .rename_i e;have e:=B6 e;subst e;obtain⟨d,i⟩:=Es h;have d:=Xk d;refine D7 i j λK g=>?_;simp only[cC,f]at g;have o:S.opd x=.a (.c (.rf r [] t.n 0 w.length)):=by rw[BT q y (by simp[cC,f])];simp only[cC,f]
    exact ZX o L H d (by simpa[A9,Am] using g)
   simp at h
  .rename_i v t w f;split at h
   .rename_i e;have e:=B6 e;subst e;obtain⟨d,i⟩:=Es h;have d:=Xk d;have u:Dp X.roots r v=true:=Lu f;have b:=vB (ws:=w) d;have m:D5 X.roots r []=some (t.n,w.map (Al t)):=by simp only[D5,f];rfl
    simp only[Am]at d i b;refine D7 i ⟨j,(A.ids r v _ f).2,λ_=>⟨_,m, ?_, ?_⟩⟩ λK g=>?_
    .rw[b];simp only[A9,B3];omega
    .rw[b];simp only[BA,E9,A9,Fp,F4]
    simp only[cC,u,b]at g;have o:S.opd x=.a (.c (.rf r [] t.n 0 w.length)):=by rw[BT q y (by simp[cC,f])];simp only[cC,f]
    exact ZX o L H d (by simpa[A9,Am] using g)
   simp at h
  simp at h
 .rename_i r Q n;split at h
  .rename_i s t w f;split at h
   .rename_i e;have e:=B6 e;subst e;obtain⟨d,i⟩:=Es h;have d:=Xk d;refine D7 i j λK g=>?_;simp only[cC,f]at g;exact ZX (by rw[BT q y (by simp[cC,f])];simp only[cC,f]) L H d g
   simp at h
  simp at h
 .rename_i r v p Q t z;split at h
  .rename_i e;simp only[A6]at e;obtain⟨u,e⟩:=e;have e:=B6 e;subst e;obtain⟨d,i⟩:=Es h;have d:=Xk d;have b:=vB (ws:=z) d;simp only[Am]at d i b;obtain⟨G,I,J⟩:=j;obtain⟨l,M,R,N⟩:=J u;refine D7 i ⟨G,I,λ_=>⟨l,M, ?_, ?_⟩⟩ λK g=>?_
   .rw[b];simp only[A9];omega
   .rw[b];simp only[BA,E9,A9,Fp,F4,<-N];rw[List.drop_take,mg,MC];congr 1;omega
   simp only[cC,u,b]at g;exact ZX (by rw[BT q y (by simp[cC,u])];simp only[cC,u]) L H d g
  simp at h
 simp at h
def yo{α:Type}{l:List α}{c n:Nat}{d:List (List D)}{b:List (List D)}{i:Nat}{e:List D}(h:(b.drop c).take n=d)(a:d[i]?= some e):b[c+i]?= some e:=by
 subst h;rw[EM]at a;split at a
 .simpa using a
 simp at a
def ZW{d:Nat}{x j:Opd}{r:Nat}{p:Ao}{b n:Nat}{i:IntKind}{z:Int}(h:S.opd x=.a (.c (.rf r p d b n)))(g:S.opd j=.a (.c (.lf (.int i z))))(e:0<=z)(k:z.toNat<n){K:V->Prop}(f:K (.a (.c (.pe r p (b+z.toNat) 0)))):ev S K (.iad d x j):=by
 simp only[ev,h,g];exact⟨trivial,⟨e,by omega⟩,f⟩
def Zit(B:XOk X)(y:SimX X S){E:Nat}{x j:Opd}{c:XC}{z:Int}{k:XV->Option β}(A:X.opd x=.a (.c c))(M:KY (X.opd j)=some z)(h:iR X.roots E c z (λc=>k (.a (.c c)))=some out):Ok X S (.iad E x j) k out:=by
 have q:Bj X.roots X.next X.stamp c:=by have:=Gy B x;rw[A]at this;exact this
 obtain⟨P,J⟩:=Nl y M;unfold iR at h;split at h
 .rename_i r;split at h
  .rename_i v t w g;split at h
   .rename_i f;have f:=B6 f;subst f;obtain⟨e,d,u⟩:=G6 h;obtain⟨s,d⟩:=SE d;have o:Dp X.roots r v=true:=Lu g;have b:D5 X.roots r []=some (t.n,w.map (Al t)):=by simp only[D5,g];rfl
    have i:S.opd x=.a (.c (.rf r [] t.n 0 w.length)):=by rw[BT y A (by simp[cC,g])];simp only[cC,g]
    refine D7 u ⟨q,(B.ids r v _ g).2,λ_=>⟨_,b, ?_⟩⟩ λK m=>?_
    .rw[CQ,A9,d];rfl
    simp only[cC,o]at m;exact ZW i J s (CY.1 d).1 (by simpa[A9] using m)
   simp at h
  .rename_i v t w g;split at h
   .rename_i f;have f:=B6 f;subst f;obtain⟨e,d,u⟩:=G6 h;obtain⟨s,d⟩:=SE d;have o:Dp X.roots r v=true:=Lu g;have b:D5 X.roots r []=some (t.n,w.map (Al t)):=by simp only[D5,g];rfl
    have i:S.opd x=.a (.c (.rf r [] t.n 0 w.length)):=by rw[BT y A (by simp[cC,g])];simp only[cC,g]
    refine D7 u ⟨q,(B.ids r v _ g).2,λ_=>⟨_,b, ?_⟩⟩ λK m=>?_
    .rw[CQ,A9,d];rfl
    simp only[cC,o]at m;exact ZW i J s (CY.1 d).1 (by simpa[A9] using m)
   simp at h
  simp at h
 .rename_i r D n;split at h
  .rename_i v t w g;split at h
   .rename_i f;have f:=B6 f;subst f;obtain⟨C,h⟩:=Es h;simp only[Bb,AA,dp]at C;obtain⟨e,d,u⟩:=G6 h;obtain⟨s,d⟩:=SE d;have o:Dp X.roots r v=true:=Lu g;have b:D5 X.roots r []=some (t.n,w.map (Al t)):=by simp only[D5,g];rfl
    have i:S.opd x=.a (.c (.rf r [] t.n D n)):=by rw[BT y A (by simp[cC,g])];simp only[cC,g]
    refine D7 u ⟨q,(B.ids r v _ g).2,λ_=>⟨_,b, ?_⟩⟩ λK m=>?_
    .simp only[E9,F2]at d;rw[CQ,A9,d];rfl
    simp only[cC,o]at m;exact ZW i J s (by omega) m
   simp at h
  simp at h
 .rename_i r v p D t N;split at h
  .rename_i f;simp only[A6]at f;obtain⟨o,f⟩:=f;have f:=B6 f;subst f;obtain⟨e,d,u⟩:=G6 h;obtain⟨s,d⟩:=SE d;obtain⟨F,G,H⟩:=q;obtain⟨l,I,O,L⟩:=H o;have i:S.opd x=.a (.c (.rf r p t.n D N.length)):=by rw[BT y A (by simp[cC,o])];simp only[cC,o]
   refine D7 u ⟨F,G,λ_=>⟨l,I, ?_⟩⟩ λK m=>?_
   .refine yo (α:=Nat) (l:=[]) L ?_;rw[CQ,A9,d];rfl
   simp only[cC,o]at m;exact ZW i J s (CY.1 d).1 m
  simp at h
 simp at h
def Zjz(q:XOk X)(f:SimX X S){x:Opd}{c:XC}{k:XV->Option β}(g:X.opd x=.a (.c c))(h:jC X.roots c (λz=>k (.a (.c (.i .i64 z))))=some out):Ok X S (.len x) k out:=by
 unfold jC at h;split at h
 .refine D7 h trivial λK d=>?_;simp only[ev,BT f g (by simp[cC])];exact d
 .rename_i r;split at h
  .rename_i v t j e;refine D7 h trivial λK d=>?_;have b:S.opd x=.a (.c (.rf r [] t.n 0 j.length)):=by rw[BT f g (by simp[cC,e])];simp only[cC,e]
   simp only[ev,b];exact d
  .rename_i v t j e;refine D7 h trivial λK d=>?_;have b:S.opd x=.a (.c (.rf r [] t.n 0 j.length)):=by rw[BT f g (by simp[cC,e])];simp only[cC,e]
   simp only[ev,b];exact d
  simp at h
 .rename_i r l n;split at h
  .rename_i v t j e;refine D7 h trivial λK d=>?_;have b:S.opd x=.a (.c (.rf r [] t.n l n)):=by rw[BT f g (by simp[cC,e])];simp only[cC,e]
   simp only[ev,b];exact d
  .rename_i v t j e;refine D7 h trivial λK d=>?_;have b:S.opd x=.a (.c (.rf r [] t.n l n)):=by rw[BT f g (by simp[cC,e])];simp only[cC,e]
   simp only[ev,b];exact d
  simp at h
 .rename_i r v p l t o;split at h
  .rename_i m;refine D7 h trivial λK d=>?_;have b:S.opd x=.a (.c (.rf r p t.n l o.length)):=by rw[BT f g (by simp[cC,m])];simp only[cC,m]
   simp only[ev,b];exact d
  simp at h
 simp at h
def Zk6(n:XOk X)(e:SimX X S){c a b:Opd}{t:Bool}{k:XV->Option β}(p:X.opd c=.a (.c (.b t)))(h:je t (X.opd a) (X.opd b) k=some out):Ok X S (.pick c a b) k out:=by
 have m:S.opd c=.a (.c (.lf (.bool t))):=BT e p (by simp[cC]);have d:∀K:V->Prop,K (if t=true then S.opd a else S.opd b)->ev S K (.pick c a b):=by
  intro K f;simp only[ev,m];cases t<;>simpa using f
 unfold je at h;split at h
 .rename_i x y j l;refine⟨_,h,trivial,_, ?_,d⟩;have g:=BT e j (by simp[cC]);have i:=BT e l (by simp[cC]);rw[g,i];cases t<;>exact Ba.refl _
 .rename_i q x r y j l;split at h
  .rename_i o;simp only[JG,AA]at o;subst o;refine⟨_,h,trivial,_, ?_,d⟩;have g:=BT e j (by simp[cC]);have i:=BT e l (by simp[cC]);rw[g,i];cases t<;>exact Ba.refl _
  simp at h
 rcases Z5 h with ⟨rfl,h⟩|⟨rfl,h⟩
 .exact⟨_,h,Gy n a,_,HJ e a,λK f=>d K (by simpa using f)⟩
 exact⟨_,h,Gy n b,_,HJ e b,λK f=>d K (by simpa using f)⟩
end
end Go.Vs
namespace Go.Vs
variable [Glb]
section
variable {β:Type} {X:XSt} {S:St} {out:β}
def ni:∀a:List UInt8,Qa (a.map (Al .Y))=some a
 |[]=>rfl
 |b::a=>by
  have:=ni a;simp only[A2,Al,Qa]at this ⊢;rw[this];simp
def Ro:∀{c b:List C}{i:Nat}{x:C},Ai Ba c b->b[i]?= some x->∃y,c[i]?= some y/\Ba y x
 |[],[],i,x,_,h=>by simp at h
 |y::c,d::b,0,x,h,a=>by simp at a;subst a;exact⟨y,rfl,h.1⟩
 |y::c,d::b,i+1,x,h,a=>by simpa using Ro h.2 (by simpa using a)
 |[],_::_,_,_,h,_=>h.elim
 |_::_,[],_,_,h,_=>h.elim
def lx:∀{c b:List A}{i:Nat}{x:A},Ai EH c b->b[i]?= some x->∃y,c[i]?= some y/\EH y x
 |[],[],i,x,_,h=>by simp at h
 |y::c,d::b,0,x,h,a=>by simp at a;subst a;exact⟨y,rfl,h.1⟩
 |y::c,d::b,i+1,x,h,a=>by simpa using lx h.2 (by simpa using a)
 |[],_::_,_,_,h,_=>h.elim
 |_::_,[],_,_,h,_=>h.elim
def i0{R:AK}:∀{b:List XC}{l:List Int},Ko b=some l->b.map (cC R)=l.map λz=>C.lf (.int .i64 z)
 |[],l,h=>by simp only[Ko,Ac]at h;subst h;rfl
 |c::b,l,h=>by
  unfold Ko at h;split at h
  .rename_i a;simp at a
  .rename_i z e a;split at h
   .rename_i m d;simp only[Ac]at h;subst h;cases a;simp only[A2,i0 d];rfl
   simp at h
  simp at h
def qY{R:AK}{nx st b:Nat}{l:List UInt8}(g:aP Glb.tab b=some l):∀(o m:Nat) (k:List XC->Option β),aO l o m k=some out->∃a,k a=some out/\(∀c∈a,Bj R nx st c)/\∃d,Qv b o m=some d/\a.map (cC R)=d.map .lf
 |o,0,k,h=>⟨[],h,by simp,[],rfl,rfl⟩
 |o,m+1,k,h=>by
  simp only[aO]at h;obtain⟨y,q,h⟩:=G6 h;obtain⟨a,i,j,d,n,p⟩:=qY g (o+1) m _ h;have f:l[o]?= some y:=by simpa[idx] using q
  refine⟨.y y::a,i, ?_,.int .u8 y.toNat::d, ?_, ?_⟩
  .intro c e;rcases AX.1 e with rfl|e
   .trivial
   exact j c e
  .simp only[Qv,GU,g,f,n]
  simp only[A2,p];rfl
def Zj1(hX:XOk X)(O:SimX X S){n:Option Nat}{x:Opd}{k:XV->Option β}(h:Ex X (.load n x) k=some out):Ok X S (.load n x) k out:=by
 have Q:=Gy hX x;simp only[Ex]at h;split at h
 .rename_i r v p i c t e N;rw[N]at Q;obtain⟨a1,a2,a3⟩:=Q;split at h
  .rename_i Y;obtain⟨l,b1,Z⟩:=a3 Y;have q:S.opd x=.a (.c (.pe r p i c)):=by rw[BT O N (by simp[cC,Y])];simp only[cC,Y]
   have B:S.node r p=some (t.n,l):=by rw[OW];exact ST O b1
   have A:=fS Y p i t e 0;have H:=Z1 (nx:=X.next) (st:=X.stamp) a1 a2 (λ_=>⟨b1,Z⟩) t e 0 (λj d hd=>by simpa using hd);split at h
   .obtain⟨u,h⟩:=Sm h;rw[iF]at u;have u:=UX u 0;rw[dq (by omega),F2,AL]at u;rw[Zy r v p i t e 0 c u]at h;split at h
    .rename_i y E;refine D7 h (H y (CP E)) λK w=>?_;have L:((Dj r v p i t e 0).map (cC X.roots))[c]?= some (cC X.roots y):=by rw[CQ,E];rfl
     rw[A]at L;have J:∀(g:List D) (f c:Nat) (z:C),(AM r p i f g)[c]?= some z->∃d,g[c]?= some d/\z=Be r p i (f+c) d:=by
      intro g
      induction g with
      |nil=>intro f c z F;simp[AM]at F
      |cons d g U=>
       intro f c z F;cases c with
       |zero=>simp[AM]at F;exact⟨d,rfl,F.symm⟩
       |succ c=>
        simp only[AM,AN]at F;obtain⟨d',L,h2⟩:=U (f+1) c z F;exact⟨d',by simpa using L,by rw[h2,show f+1+c=f+(c+1) by omega]⟩
     obtain⟨d,hd,F⟩:=J _ 0 c _ L;simp only[A7]at F;simp only[ev,q];refine⟨d, ?_,by rw[<-F];exact w⟩;rw[B];simp only[DF,Z,hd]
    simp at h
   rename_i m;split at h
   .rename_i M;have M:=AS M;obtain⟨u,h⟩:=Sm h;rw[iF]at u;rw[fR r v p i t e 0 c m u]at h;refine⟨_,h, ?_,.a (.ag (((Dj r v p i t e 0).drop c |>.take m).map (cC X.roots))),Ai.refl Ba.refl _,λK w=>?_⟩
    .intro y E;exact H y (Gm (G4 E))
    simp only[ev,q];refine⟨Al t e,by rw[B];simp only[DF,Z],by rw[Cv];exact M, ?_⟩;have J:∀(c f:Nat) (g:List D),(AM r p i f g).drop c=AM r p i (f+c) (g.drop c):=by
     intro c
     induction c with
     |zero=>intro f g;rfl
     |succ c U=>
      intro f g;cases g with
      |nil=>simp[AM]
      |cons d g=>
       simp only[AM,AV,U];rw[show f+1+c=f+(c+1) by omega]
    have V:∀(m f:Nat) (g:List D),(AM r p i f g).take m=AM r p i f (g.take m):=by
     intro m
     induction m with
     |zero=>intro f g;rfl
     |succ m U=>
      intro f g;cases g with
      |nil=>simp[AM]
      |cons d g=>simp only[AM,AT,U]
    simp only[Fp,F4,A,J,V,A7]at w;exact w
   simp at h
  simp at h
 .rename_i r c N;split at h
  .rename_i s G T;have q:S.opd x=.a (.c (.pb r c)):=by rw[BT O N (by simp[cC,T])];simp only[cC,T]
   obtain⟨ys,g1,W⟩:=Ot O T;have hb:S.bcells r=some ys:=by simp[St.bcells,g1]
   split at h
   .split at h
    .rename_i l I;obtain⟨e,he,h⟩:=G6 h;have P:Ko (G.map (·.2))=some l:=by
      unfold na at I;split at I
      .exact I
      simp at I
     have hi:=i0 (R:=X.roots) P;have hc:(G.map λe=>cC X.roots e.2)[c]?= some (.lf (.int .i64 e)):=by
      have:(G.map λe=>cC X.roots e.2)=(G.map (·.2)).map (cC X.roots):=by rw[GO];rfl
      rw[this,hi,CQ];have a0:l[c]?= some e:=by simpa[idx] using he
      rw[a0];rfl
     obtain⟨z,z1,z2⟩:=Ro (i:=c) W hc;refine⟨_,h,trivial,.a (.c z),z2,λK w=>?_⟩;simp only[ev,q];exact⟨z,by rw[hb];exact z1,w⟩
    split at h
    .rename_i y E;obtain⟨z,z1,z2⟩:=Ro (i:=c) (x:=cC X.roots y.2) W (by rw[CQ,E];rfl);refine⟨_,h,(hX.box r s G T y (CP E)).2,.a (.c z),z2,λK w=>?_⟩;simp only[ev,q];exact⟨z,by rw[hb];exact z1,w⟩
    simp at h
   rename_i m;split at h
   .rename_i M;have M:=AS M;refine⟨_,h, ?_,.a (.ag ((ys.drop c).take m)), ?_,λK w=>?_⟩
    .intro y E;obtain⟨e,he,rfl⟩:=CC.1 E;exact (hX.box r s G T e (Gm (G4 he))).2
    .have:=JU (n:=m) (J4 (n:=c) W);simp only[cV,cA,CZ,EH,GO];rw[<-F4,<-Fp]at this;exact this
    simp only[ev,q];have:=W.length;simp only[B3]at this;exact⟨ys,hb,by omega,w⟩
   simp at h
  simp at h
 .rename_i b o N;have q:S.opd x=.a (.c (.lf (.pointer (some ⟨b,o,none⟩)))):=by rw[BT O N (by simp[cC])];rfl
  split at h
  .rename_i l I;split at h
   .obtain⟨y,E,h⟩:=G6 h;refine D7 h trivial λK w=>?_;simp only[ev,q];have a4:l[o]?= some y:=by simpa[idx] using E
    exact⟨.int .u8 y.toNat,by simp only[GU,I,a4],w⟩
   rename_i m;obtain⟨G,h,L,vs,h2,h3⟩:=qY (R:=X.roots) (nx:=X.next) (st:=X.stamp) I o m _ h;refine⟨_,h,L,.a (.ag (G.map (cC X.roots))),Ai.refl Ba.refl _,λK w=>?_⟩;simp only[ev,q];exact⟨vs,h2,by rw[<-h3];exact w⟩
  simp at h
 simp at h
def Zbi{x:Opd}{h g:Option Opd}{s:List UInt8}{e f:Option Int}(i:S.opd x=.a (.c (.lf (.string ⟨s.toArray⟩))))(n:(h=none/\e=none)\/∃k w,e=some w/\h.map S.opd=some (.a (.c (.lf (.int k w)))))(m:(g=none/\f=none)\/∃k w,f=some w/\g.map S.opd=some (.a (.c (.lf (.int k w)))))
  (o:(h.isSome||g.isSome)=true) (b:0<=e.getD 0/\e.getD 0<=f.getD s.length/\f.getD s.length<=s.length) {K:V->Prop} (d:K (.a (.c (.lf (.string ⟨((s.drop (e.getD 0).toNat).take ((f.getD s.length).toNat-(e.getD 0).toNat)).toArray⟩))))):ev S K (.ssl x h g):=by
 rcases n with ⟨rfl,rfl⟩|⟨p,r,rfl,j⟩<;>rcases m with ⟨rfl,rfl⟩|⟨q,w2,rfl,l⟩
 .simp at o
 .simp only[ev,i,H2,l,UI,Eg,QZ]at d b ⊢;refine⟨⟨by omega,b.2.2⟩, ?_⟩;rw[gm];simpa using d
 .simp only[ev,i,H2,j,UI,Eg,QZ,Gn]at d b ⊢;refine⟨⟨b.1,b.2.1⟩, ?_⟩;rw[gm];exact d
 simp only[ev,i,j,l,Eg,QZ]at d b ⊢;refine⟨b, ?_⟩;rw[gm];exact d
def jD:∀l:List Int,VX l=l.length
 |[]=>rfl
 |_::l=>by simp only[VX,jD l,Aq]
def iZ{R:AK}:∀{e:List XC}{d:List Int}{b:List C},Ko e=some d->Ai Ba b (e.map (cC R))->b=d.map (λz=>C.lf (.int .i64 z))
 |[],d,b,h,w=>by
  simp only[Ko,Ac]at h;subst h;cases b with
  |nil=>rfl
  |cons _ _=>exact w.elim
 |c::e,d,b,h,w=>by
  cases b with
  |nil=>exact w.elim
  |cons y b=>
   unfold Ko at h;split at h
   .rename_i a;cases a
   .rename_i a;simp only[List.cons.injEq]at a;obtain⟨rfl,rfl⟩:=a;split at h
    .rename_i m f;simp only[Ac]at h;subst h;rw[A2,<-iZ f w.2];have:=w.1.eq (by simp[cC]);rw[this];rfl
    cases h
   cases h
def nY(l:XOk X)(k:SimX X S):∀(b:List Opd) (d:List XA),Se (b.map X.opd)=some d->∃f,KM (b.map S.opd)=some f/\Ai EH f (d.map (cA X.roots))/\∀x∈d,Gw X.roots X.next X.stamp x
 |[],d,h=>by
  simp only[CB,Se,Ac]at h;subst h;exact⟨[],rfl,trivial,by simp⟩
 |c::b,d,h=>by
  have e:=HJ k c;have j:=Gy l c;simp only[A2]at h;cases m:X.opd c with
  |a x=>
   rw[m]at h e j;simp only[Se]at h;split at h
   .rename_i r q;simp only[Ac]at h;subst h;obtain⟨f,n,o,p⟩:=nY l k b r q;cases g:S.opd c with
    |a y=>
     rw[g]at e;refine⟨y::f, ?_,⟨e,o⟩, ?_⟩
     .simp only[A2,g,KM,n,Dg]
     intro z i;rcases AX.1 i with rfl|i
     .exact j
     exact p z i
    |_=>rw[g]at e;exact e.elim
   cases h
  |_=>rw[m]at h;simp[Se]at h
def jn(G:XOk X)(A:SimX X S){i:I}{k:XV->Option β}(h:Ex X i k=some out):Ok X S i k out:=by
 cases i with
 |mv x=>exact⟨_,h,Gy G x,_,HJ A x,λK g=>g⟩
 |pick c a b=>
  simp only[Ex]at h;split at h
  .rename_i t Z;exact Zk6 G A Z h
  simp at h
 |load n x=>exact Zj1 G A h
 |nilc x=>
  have q:=Gy G x;simp only[Ex]at h;split at h
  .rename_i r v p i c t e w;rw[w]at q;split at h
   .rename_i L;refine D7 h q λK g=>?_;have B:S.opd x=.a (.c (.pe r p i c)):=by rw[BT A w (by simp[cC,L])];simp only[cC,L]
    simp only[cC,L]at g;simp only[ev,B];exact g
   simp at h
  .rename_i r c w;rw[w]at q;split at h
   .rename_i s N Q;refine D7 h q λK g=>?_;have B:S.opd x=.a (.c (.pb r c)):=by rw[BT A w (by simp[cC,Q])];simp only[cC,Q]
    simp only[cC,Q]at g;simp only[ev,B];exact g
   simp at h
  simp at h
 |bin op x y=>
  simp only[Ex]at h;split at h
  .rename_i u v U L;exact Zjw G A U L h
  simp at h
 |beq neg x y=>
  simp only[Ex]at h;split at h
  .rename_i u v U L;refine D7 h trivial λK g=>?_;simp only[ev,BT A U (by simp[cC]),BT A L (by simp[cC]),cC];cases neg<;>exact g
  simp at h
 |aeq neg m x y=>
  simp only[Ex]at h;split at h
  .rename_i N ds U L;split at h
   .rename_i us vs D P;split at h
    .rename_i V;simp only[A6]at V;refine D7 h trivial λK g=>?_;have s1:=HJ A x;have s2:=HJ A y;rw[U]at s1;rw[L]at s2;cases H:S.opd x with
     |a q1=>
      rw[H]at s1;cases F:S.opd y with
      |a q2=>
       rw[F]at s2;cases q1 with
       |ag zs=>cases q2 with
        |ag ws=>
         simp only[ev,H,F];refine⟨us,vs,iZ D s1,iZ P s2,by rw[<-jD];exact B6 V.1,by rw[<-jD];exact B6 V.2, ?_⟩;cases neg<;>exact g
        |c _=>exact s2.elim
       |c _=>exact s1.elim
      |_=>rw[F]at s2;exact s2.elim
     |_=>rw[H]at s1;exact s1.elim
    cases h
   cases h
  cases h
 |un op x=>
  simp only[Ex]at h;split at h
  .rename_i u U;refine D7 h trivial λK g=>?_;simp only[ev,BT A U (by simp[cC]),cC];exact⟨_,rfl,g⟩
  .rename_i M z U;refine D7 h jO λK g=>?_;simp only[ev,BT A U (by simp[cC]),cC];rw[show cC X.roots (GZ M (ql M z))=.lf (.int M (M.wrap (0-z))) from jR]at g;exact⟨_,rfl,g⟩
  simp at h
 |conv M x=>
  simp only[Ex]at h;split at h
  .rename_i z hz;obtain⟨k',w⟩:=Nl A hz;refine D7 h jO λK g=>?_;rw[show cC X.roots (GZ M (Az M z))=.lf (.int M (M.wrap z)) from jR]at g;simp only[ev,w];exact g
  simp at h
 |b2s x=>
  have q:=Gy G x;simp only[Ex]at h;split at h
  .rename_i s w;refine D7 h trivial λK g=>?_;simp only[ev,BT A w (by simp[cC]),cC];exact g
  .rename_i c Z w;rw[w]at q;obtain⟨t,ws,r,p,lo,l,D,P,h3,h4,h5,h6⟩:=lv q h;split at D
   .refine D7 D trivial λK g=>?_;have B:=BT A w (by rw[h3];simp);rw[h3]at B;simp only[ev,B,Ty.n];refine⟨_, ?_,g⟩;rw[OW,ST A h4];simp only[DF,h5,BF,h6];exact ni _
   simp at D
  simp at h
 |slc z0 x lo hi=>
  simp only[Ex]at h;split at h
  .rename_i c xl xh w hl hh;exact Znq G A w hl hh h
  simp at h
 |ssl x lo hi=>
  simp only[Ex]at h;split at h
  .rename_i l xl xh w hl hh;split at h
   .rename_i hs;obtain⟨D,P⟩:=Es h;have D:=Xk D;have a3:(lo.isSome||hi.isSome)=true:=by
     rcases SR A hl with ⟨rfl,rfl⟩|⟨_,_,rfl,e⟩<;>rcases SR A hh with ⟨rfl,rfl⟩|⟨_,_,rfl,e'⟩
     .simp at hs
     .cases hi with
      |none=>simp at e'
      |some _=>rfl
     .cases lo with
      |none=>simp at e
      |some _=>rfl
     cases lo with
     |none=>simp at e
     |some _=>rfl
    simp only[vE]at P;refine D7 P trivial λK g=>?_;exact Zbi (BT A w (by simp[cC])) (SR A hl) (SR A hh) a3 D g
   simp at h
  simp at h
 |fld W n x=>
  have q:=Gy G x;have d:=HJ A x;simp only[Ex]at h;split at h
  .rename_i N w;rw[w]at q d;have:∃E,S.opd x=.a (.ag E)/\Ai Ba E (N.map (cC X.roots)):=by
    cases O:S.opd x with
    |a z=>cases z with
     |ag E=>rw[O]at d;exact⟨E,rfl,d⟩
     |c _=>rw[O]at d;exact d.elim
    |_=>rw[O]at d;exact d.elim
   obtain⟨E,H,F⟩:=this;split at h
   .split at h
    .rename_i y hy;obtain⟨z,z1,z2⟩:=Ro (i:=W) (x:=cC X.roots y) F (by rw[CQ,hy];rfl);refine⟨_,h,q y (CP hy),.a (.c z),z2,λK g=>?_⟩;simp only[ev,H];exact⟨z,z1,g⟩
    simp at h
   rename_i m;split at h
   .rename_i hm;have hm:=AS hm;refine⟨_,h,λc Z=>q c (Gm (G4 Z)),.a (.ag ((E.drop W).take m)), ?_,λK g=>?_⟩
    .simp only[cV,cA,CZ,EH,Fp,F4];exact JU (J4 F)
    simp only[ev,H];have:=F.length;simp only[B3]at this;exact⟨by omega,g⟩
   simp at h
  simp at h
 |fad W x=>
  have q:=Gy G x;simp only[Ex]at h;split at h
  .rename_i r v p i c t e w;rw[w]at q;split at h
   .rename_i L;refine D7 h q λK g=>?_;have B:S.opd x=.a (.c (.pe r p i c)):=by rw[BT A w (by simp[cC,L])];simp only[cC,L]
    simp only[cC,L]at g;simp only[ev,B];exact g
   simp at h
  .rename_i r c w;rw[w]at q;split at h
   .rename_i s N Q;refine D7 h q λK g=>?_;have B:S.opd x=.a (.c (.pb r c)):=by rw[BT A w (by simp[cC,Q])];simp only[cC,Q]
    simp only[cC,Q]at g;simp only[ev,B];exact g
   simp at h
  .rename_i b o w;refine D7 h trivial λK g=>?_;have B:S.opd x=.a (.c (.lf (.pointer (some ⟨b,o,none⟩)))):=by rw[BT A w (by simp[cC])];rfl
   simp only[ev,B];exact g
  simp at h
 |iad sz x j=>
  simp only[Ex]at h;split at h
  .rename_i c z w T;exact Zit G A w T h
  simp at h
 |iaa len sz x j=>
  have q:=Gy G x;simp only[Ex]at h;split at h
  .rename_i r c z w T;rw[w]at q;obtain⟨M,J⟩:=Nl A T;split at h
   .rename_i s N Q;obtain⟨D,h⟩:=Es h;obtain⟨P,h⟩:=Es h;simp only[Ck,Bb,AA,dp]at D P;refine D7 h q λK g=>?_;have B:S.opd x=.a (.c (.pb r c)):=by rw[BT A w (by simp[cC,Q])];simp only[cC,Q]
    simp only[cC,Q]at g;simp only[ev,B,J];exact⟨⟨D,P⟩,g⟩
   simp at h
  .rename_i b o z w T;obtain⟨M,J⟩:=Nl A T;obtain⟨D,h⟩:=Es h;obtain⟨P,h⟩:=Es h;simp only[Ck,Bb,AA,dp]at D P;refine D7 h trivial λK g=>?_;have B:S.opd x=.a (.c (.lf (.pointer (some ⟨b,o,none⟩)))):=by rw[BT A w (by simp[cC])];rfl
   simp only[ev,B,J];exact⟨⟨D,P⟩,g⟩
  simp at h
 |idx x j=>
  simp only[Ex]at h;split at h
  .rename_i l z w T;obtain⟨M,J⟩:=Nl A T;obtain⟨b,D,h⟩:=G6 h;obtain⟨h0,D⟩:=SE D;refine D7 h trivial λK g=>?_;simp only[ev,BT A w (by simp[cC]),cC,J];exact⟨h0,b,by rw[Zn2];exact D,g⟩
  simp at h
 |ixa len n sz x j=>
  cases n with
  |some m=>simp[Ex]at h
  |none=>
   have d:=HJ A x;simp only[Ex]at h;split at h
   .rename_i N z w T;rw[w]at d;obtain⟨M,J⟩:=Nl A T;split at h
    .rename_i l hl V;simp only[A6]at V;have a5:=B6 V.1;have a2:=B6 V.2;subst a2;obtain⟨e,D,h⟩:=G6 h;obtain⟨h0,D⟩:=SE D;have:∃E,S.opd x=.a (.ag E)/\Ai Ba E (N.map (cC X.roots)):=by
      cases O:S.opd x with
      |a z=>cases z with
       |ag E=>rw[O]at d;exact⟨E,rfl,d⟩
       |c _=>rw[O]at d;exact d.elim
      |_=>rw[O]at d;exact d.elim
     obtain⟨E,H,F⟩:=this;have a1:=i0 (R:=X.roots) hl;have a4:l.length=N.length:=by have:=DU List.length a1;simpa using this.symm
     have a6:=(CY.1 D).1;obtain⟨y,y1,y2⟩:=Ro (i:=z.toNat) (x:=C.lf (.int .i64 e)) F (by rw[a1,CQ,D];rfl);have y3:=y2.eq (by simp);subst y3;refine D7 h trivial λK g=>?_;simp only[ev,H,J];exact⟨⟨h0,by omega⟩,_,by rw[Og];exact y1,g⟩
    simp at h
   simp at h
 |ext n x=>
  have q:=Gy G x;have d:=HJ A x;simp only[Ex]at h;split at h
  .rename_i xs w;rw[w]at q d;split at h
   .rename_i y hy;have:∃E,S.opd x=.tp E/\Ai EH E (xs.map (cA X.roots)):=by
     cases O:S.opd x with
     |tp E=>rw[O]at d;exact⟨E,rfl,d⟩
     |_=>rw[O]at d;exact d.elim
    obtain⟨E,H,F⟩:=this;obtain⟨z,z1,z2⟩:=lx (i:=n) (x:=cA X.roots y) F (by rw[CQ,hy];rfl);refine⟨_,h,q y (CP hy),.a z,z2,λK g=>?_⟩;simp only[ev,H];exact⟨z,z1,g⟩
   simp at h
  simp at h
 |len x=>
  simp only[Ex]at h;split at h
  .rename_i c w;exact Zjz G A w h
  simp at h
 |sid x=>
  simp only[Ex]at h;split at h
  .rename_i l w;refine D7 h trivial λK g=>?_;simp only[ev,BT A w (by simp[cC]),cC];exact g
  simp at h
 |sln x=>
  simp only[Ex]at h;split at h
  .rename_i l w;refine D7 h trivial λK g=>?_;simp only[ev,BT A w (by simp[cC]),cC];exact g
  simp at h
 |build zero Y=>
  simp only[Ex]at h;split at h
  .rename_i hz;split at h
   .rename_i N hf;obtain⟨zs,H,F,e3⟩:=gn G A Y _ zero N (Wj X.roots hz) (by
     intro c Z;obtain⟨c',_,rfl⟩:=CC.1 Z;exact Wi _ _ _ c') hf
    refine⟨_,h,e3,.a (.ag zs),F,λK g=>?_⟩;simp only[ev];exact⟨zs,H,g⟩
   simp at h
  simp at h
 |mkf f a0=>
  simp only[Ex]at h;split at h
  .rename_i N O;obtain⟨E,H,F,e3⟩:=nY G A a0 N O;exact⟨_,h,e3,.fn f E,⟨rfl,F⟩,λK g=>⟨E,H,g⟩⟩
  cases h
end
end Go.Vs
namespace Go.Vs
variable [Glb]
def XSt.put(X:XSt)(d:Option Nat)(v:XV):XSt:=match d with
 |some d=>⟨(d,X.stamp,v)::X.env,X.roots,X.next,X.stamp+1,X.fix⟩
 |none=>X
def XSt.newR(X:XSt)(x:XR):XSt:=⟨X.env,(X.next,X.stamp,x)::X.roots,X.next+1,X.stamp+1,X.fix⟩
def XSt.setR(X:XSt)(r:Nat)(x:XR):XSt:=⟨X.env,(r,X.stamp,x)::X.roots,X.next,X.stamp+1,X.fix⟩
def XSt.delRs(X:XSt):List Nat->XSt
 |[]=>X
 |r::l=>(X.setR r .gone).delRs l
def JI{X:XSt}(h:XOk X){d:Option Nat}{v:XV}(m:Dt X.roots X.next X.stamp v):XOk (X.put d v)/\Ext X (X.put d v):=by
 cases d with
 |none=>exact⟨h,Ext.refl X⟩
 |some d=>
  have g:∀r s x,lk X.roots r=some (s,x)->s<X.stamp->lk X.roots r=some (s,x):=λ_ _ _ h _=>h;refine⟨⟨λr s x j=>⟨(h.ids r s x j).1,G5 (h.ids r s x j).2⟩, ?_, ?_,h.fixle⟩,⟨AE _,HR _,rfl,g, ?_,λr s i f c e k _=>⟨s,i,f,k⟩⟩⟩
  .intro t s w f;simp only[XSt.put]at f;rw[BO]at f;split at f
   .simp only[Ac,A5]at f;obtain⟨rfl,rfl⟩:=f;exact⟨DG _,Dt.ext (AE _) (HR _) g m⟩
   obtain⟨a,b⟩:=h.env t s w f;exact⟨G5 a,Dt.ext (AE _) (HR _) g b⟩
  .intro r s i f e l;obtain⟨a,b⟩:=h.box r s i f e l;exact⟨G5 a,Bj.ext (AE _) (HR _) g b⟩
  intro t s w f n;simp only[XSt.put]at f;rw[BO]at f;split at f
  .simp only[Ac,A5]at f;omega
  exact f
def LA{X:XSt}(h:XOk X){r j:Nat}{x:XR}(k:X.next<=j)(B:r<j)
  (o:∀g,x=.bx g->∀(c:Nat) (e:Nat×XC),g[c]?= some e->(e.1=X.stamp\/∃u i,lk X.roots r=some (u,.bx i)/\i[c]?= some e)/\Bj X.roots X.next X.stamp e.2):
  XOk ⟨X.env,(r,X.stamp,x)::X.roots,j,X.stamp+1,X.fix⟩/\Ext X ⟨X.env,(r,X.stamp,x)::X.roots,j,X.stamp+1,X.fix⟩:=by
 have f:∀q s y,lk ((r,X.stamp,x)::X.roots) q=some (s,y)->s<X.stamp->lk X.roots q=some (s,y):=by
  intro q s y d A;rw[BO]at d;split at d
  .simp only[Ac,A5]at d;omega
  exact d
 have m:=HR X.stamp;refine⟨⟨?_, ?_, ?_,CW h.fixle k⟩,⟨k,m,rfl,f,λ_ _ _ d _=>d, ?_⟩⟩
 .intro q s y d;rw[BO]at d;split at d
  .rename_i e;simp only[Ac,A5]at d;simp only at e;obtain⟨rfl,_⟩:=d;exact⟨by show q<j;omega,DG _⟩
  obtain⟨a,b⟩:=h.ids q s y d;exact⟨by show q<j;omega,G5 b⟩
 .intro t s w d;obtain⟨a,b⟩:=h.env t s w d;exact⟨G5 a,Dt.ext k m f b⟩
 .intro q s g d e p;rw[BO]at d;split at d
  .simp only[Ac,A5]at d;obtain⟨c,l,n⟩:=MI p;obtain⟨a,b⟩:=o g d.2 c e (by rw[BW l,n]);refine⟨?_,Bj.ext k m f b⟩;rcases a with a|⟨u,i,v,z⟩
   .rw[a];exact DG _
   exact G5 (h.box _ _ _ v e (CP z)).1
  obtain⟨a,b⟩:=h.box q s g d e p;exact⟨G5 a,Bj.ext k m f b⟩
 intro q s g d c e l A;rw[BO]at d;split at d
 .rename_i eq;simp only at eq;subst eq;simp only[Ac,A5]at d;rcases (o g d.2 c e l).1 with a|a
  .omega
  exact a
 exact⟨s,g,d,l⟩
def ij:∀a:List (Nat×Ao),BE a .un=.un
 |[]=>rfl
 |k::a=>ij a
def rO(v:Value):∀a:List (Nat×Ao),BE a (.lf v)=.lf v
 |[]=>rfl
 |k::a=>rO v a
def mA{κ:C->C}(hκ:κ .un=.un){y x b:C}(h:Ba y x)(a:b=.un\/b=κ x):Ba (κ y) b:=by
 rcases a with a|a
 .exact .inr a
 rcases h with rfl|rfl
 .exact .inl a
 exact .inr (by rw[a,hκ])
section
variable {X X':XSt} {S:St} {ks:List (Nat×Ao)} {roots:List (Nat×Root)}
section
variable {κ:C->C} {R R':AK} {nx st:Nat}
def dI(hκ:κ .un=.un)(b:∀c,Bj R nx st c->cC R' c=.un\/cC R' c=κ (cC R c)):∀{d:List C}{a:List XC},(∀c∈a,Bj R nx st c)->Ai Ba d (a.map (cC R))->Ai Ba (d.map κ) (a.map (cC R'))
 |[],[],_,_=>trivial
 |y::d,c::a,e,h=>⟨mA hκ h.1 (b c (e c B5)),dI hκ b (λc b=>e c (Bx _ b)) h.2⟩
 |[],_::_,_,h=>h.elim
 |_::_,[],_,h=>h.elim
def wt(hκ:κ .un=.un)(a:∀c,Bj R nx st c->cC R' c=.un\/cC R' c=κ (cC R c)){y:A}{x:XA}(b:Gw R nx st x)(h:EH y (cA R x)):EH (y.map κ) (cA R' x):=by
 cases x with
 |c x=>cases y with
  |c y=>exact mA hκ h (a x b)
  |ag _=>exact h.elim
 |ag d=>cases y with
  |c y=>exact h.elim
  |ag e=>exact dI hκ a b h
def ly(hκ:κ .un=.un)(a:∀c,Bj R nx st c->cC R' c=.un\/cC R' c=κ (cC R c)):∀{d:List A}{b:List XA},(∀x∈b,Gw R nx st x)->Ai EH d (b.map (cA R))->Ai EH (d.map (A.map κ)) (b.map (cA R'))
 |[],[],_,_=>trivial
 |y::d,c::f,e,h=>⟨wt hκ a (e c B5) h.1,ly hκ a (λc a=>e c (Bx _ a)) h.2⟩
 |[],_::_,_,h=>h.elim
 |_::_,[],_,h=>h.elim
def wv(hκ:κ .un=.un)(e:∀c,Bj R nx st c->cC R' c=.un\/cC R' c=κ (cC R c)){y:V}{x:XV}(i:Dt R nx st x)(h:CZ y (cV R x)):CZ (y.map κ) (cV R' x):=by
 cases x with
 |un=>cases y<;>trivial
 |a x=>cases y with
  |a y=>exact wt hκ e i h
  |_=>exact h.elim
 |tp o=>cases y with
  |tp t=>exact ly hκ e i h
  |_=>exact h.elim
 |fn f o=>cases y with
  |fn g k=>
   obtain⟨rfl,h⟩:=h;exact⟨rfl,ly hκ e i h⟩
  |_=>exact h.elim
 |sb r n=>
  simp only[cV];split
  .rename_i s k m;have j:cC R' (.pb r 0)=.pb r 0:=by simp only[cC,m]
   rcases e (.pb r 0) i with b|b
   .rw[j]at b;simp at b
   rw[j]at b;have d:cC R (.pb r 0)=.pb r 0:=by
    simp only[cC]at b ⊢;split at b
    .rfl
    rw[hκ]at b;simp at b
   have l:cV R (.sb r n)=.sb r n:=by
    simp only[cC]at d;simp only[cV];split at d
    .rfl
    simp at d
   rw[l]at h;rw[d]at b;cases y with
   |sb q p=>
    obtain⟨rfl,rfl⟩:=h;simp only[V.map,<-b];exact⟨rfl,rfl⟩
   |_=>exact h.elim
  cases y<;>trivial
end
def TB{R a:AK}{b d:Nat}(e:∀c,Bj R b d c->cC a c=.un\/cC a c=BE ks (cC R c)){ys:List C}{cs:List XC}(f:∀c∈cs,Bj R b d c)(h:Ai Ba ys (cs.map (cC R))):Ai Ba (ys.map (BE ks)) (cs.map (cC a)):=dI (ij ks) e f h
def wu{R a:AK}{b d:Nat}(e:∀c,Bj R b d c->cC a c=.un\/cC a c=BE ks (cC R c)){y:V}{x:XV}(f:Dt R b d x)(h:CZ y (cV R x)):CZ (y.map (BE ks)) (cV a x):=wv (ij ks) e f h
def NB(o:XOk X)(j:SimX X S)(n:X'.env=X.env)(p:X'.fix=X.fix)(l:∀c,Bj X.roots X.next X.stamp c->cC X'.roots c=.un\/cC X'.roots c=BE ks (cC X.roots c))
  (q:∀r s x,lk X'.roots r=some (s,x)->(lk X.roots r=some (s,x)/\get roots r=(get S.roots r).map (Root.map (BE ks)))\/∀y,D1 X'.roots x=some y->∃f,get roots r=some f/\H5 f y):
  SimX X' ⟨Bz ks S.env,roots,X'.next,S.fix⟩:=by
 refine⟨rfl,by rw[p];exact j.fix, ?_, ?_⟩
 .intro t s v k;rw[n]at k;rcases j.env t s v k with h|⟨y,g,i⟩
  .exact .inl h
  exact .inr ⟨_,by rw[S7,g];rfl,wu l (o.env t s v k).2 i⟩
 intro r s x k y d;rcases q r s x k with ⟨g,i⟩|h
 .cases x with
  |tr t u=>
   obtain⟨f,a,b⟩:=j.roots r s _ g _ rfl;simp only[D1,Ac]at d;subst d;cases f with
   |tr _ _=>exact⟨_,by rw[i,a];rfl,b⟩
   |_=>exact b.elim
  |im t u=>
   obtain⟨f,a,b⟩:=j.roots r s _ g _ rfl;simp only[D1,Ac]at d;subst d;cases f with
   |im _ _=>exact⟨_,by rw[i,a];rfl,b⟩
   |_=>exact b.elim
  |bx m=>
   obtain⟨f,a,b⟩:=j.roots r s _ g _ rfl;simp only[D1,Ac]at d;subst d;cases f with
   |bx w=>
    refine⟨_,by rw[i,a];rfl, ?_⟩;have:m.map (λe=>cC X'.roots e.2)=(m.map (·.2)).map (cC X'.roots):=by simp
    rw[this];refine TB l ?_ ?_
    .intro c l;obtain⟨e,n,rfl⟩:=CC.1 l;exact (o.box r s m g e n).2
    rw[GO];exact b
   |_=>exact b.elim
  |gone=>simp[D1]at d
 exact h y d
def Zlo(x:Root):Root.map (BE []) x=x:=by
 have:BE []=λc=>c:=by funext c;rfl
 rw[this,Root.map_id]
def Li(x:Option Root):x.map (Root.map (BE []))=x:=by cases x<;>simp[Zlo]
def nk{R:AK}{B e r:Nat}{x:XR}(A:B<=r\/x=.gone\/(∃l f s,x=.bx l/\lk R r=some (s,.bx f))\/∃t j k d s,x=.tr t k/\lk R r=some (s,.tr j d)/\t.n=j.n/\k.length=d.length){c:XC}(g:Bj R B e c):cC ((r,e,x)::R) c=.un\/cC ((r,e,x)::R) c=cC R c:=by
 have b:∀{q:Nat},r≠q->lk ((r,e,x)::R) q=lk R q:=λh=>by rw[BO,Ae h]
 have a:lk ((r,e,x)::R) r=some (e,x):=by rw[BO,Af rfl]
 cases c with
 |rw q=>
  by_cases h:r=q
  .subst h;rcases A with h|rfl|⟨l,f,C,rfl,u⟩|⟨t,j,k,d,s,rfl,m,o,w⟩
   .simp only[Bj]at g;omega
   .left;simp only[cC,a]
   .left;simp only[cC,a]
   right;simp only[cC,a,m,w,o]
  right;simp only[cC,b h]
 |rv q D n=>
  by_cases h:r=q
  .subst h;rcases A with h|rfl|⟨l,f,C,rfl,u⟩|⟨t,j,k,d,s,rfl,m,o,w⟩
   .simp only[Bj]at g;omega
   .left;simp only[cC,a]
   .left;simp only[cC,a]
   right;simp only[cC,a,m,o]
  right;simp only[cC,b h]
 |rf q v p D t E=>
  by_cases h:r=q
  .subst h;left;have:Dp ((r,e,x)::R) r v=false:=by
    simp only[Dp,a];cases z:Nat.beq e v with
    |false=>rfl
    |true=>have:=B6 z;have:=g.2.1;omega
   simp only[cC,this]
  right;simp only[cC,Dp,b h]
 |pe q v p i c t y=>
  by_cases h:r=q
  .subst h;left;have:Dp ((r,e,x)::R) r v=false:=by
    simp only[Dp,a];cases z:Nat.beq e v with
    |false=>rfl
    |true=>have:=B6 z;have:=g.2.1;omega
   simp only[cC,this]
  right;simp only[cC,Dp,b h]
 |pb q c=>
  by_cases h:r=q
  .subst h;rcases A with h|rfl|⟨l,f,C,rfl,u⟩|⟨t,j,k,d,s,rfl,m,o,w⟩
   .simp only[Bj]at g;omega
   .left;simp only[cC,a]
   .right;simp only[cC,a,u]
   left;simp only[cC,a]
  right;simp only[cC,b h]
 |_=>right;rfl
def KL{R:AK}{i g r:Nat}{x:XR}(l:i<=r\/x=.gone\/(∃j f s,x=.bx j/\lk R r=some (s,.bx f))\/∃t e d s,x=.tr t e/\lk R r=some (s,.tr t d)/\e.length=d.length){c:XC}(k:Bj R i g c):cC ((r,g,x)::R) c=.un\/cC ((r,g,x)::R) c=cC R c:=
 nk (l.imp id λh=>h.imp id λh=>h.imp id λ⟨t,e,d,s,a,b,c⟩=>⟨t,t,e,d,s,a,b,rfl,c⟩) k
end
end Go.Vs
namespace Go.Vs
variable [Glb]
def QI(a n:Nat):Bool:=decide (a=0\/0<n)
def Ou{β:Type}(t a:Ty)(b:List t.den)(f:List a.den->Option β):Option β:=if h:t=a then f (h ▸ b) else none
def cv:(t g:Ty)->t.den->Option g.den
 |.I k,.I f,z=>match JG k f with
  |true=>some z
  |false=>none
 |.Y,.Y,b=>some b
 |.B,.B,x=>some x
 |.S,.S,l=>some l
 |.L a,.L b,e=>if h:a=b then some (h ▸ e) else none
 |.H a,.H b,e=>if h:a=b then some (h ▸ e) else none
 |.L a,.H b,e=>if h:a=b then some (some (h ▸ e)) else none
 |.H a,.L b,o=>match o with
  |some e=>if h:a=b then some (h ▸ e) else none
  |none=>none
 |.P a b,.P c d,x=>match cv a c x.1,cv b d x.2 with
  |some y,some z=>some (y,z)
  |_,_=>none
 |_,_,_=>none
def Ge(t a:Ty):List t.den->Option (List a.den)
 |[]=>some []
 |x::l=>match cv t a x,Ge t a l with
  |some y,some m=>some (y::m)
  |_,_=>none
def Qb{β:Type}(t a:Ty)(b:List t.den)(f:List a.den->Option β):Option β:=if h:t=a then f (h ▸ b) else match Nat.beq t.n a.n with
 |true=>Aa (Ge t a b) f
 |false=>none
def yX:∀(t f:Ty) (x:t.den) (y:f.den),cv t f x=some y->t.n=f.n/\Al t x=Al f y:=by
 intro t
 induction t with
 |I k=>intro f x y h;cases f<;>simp only[cv,reduceCtorEq]at h;split at h<;>simp at h;rename_i g;simp only[JG,AA]at g;subst g;subst h;exact⟨rfl,rfl⟩
 |Y=>intro f x y h;cases f<;>simp only[cv,reduceCtorEq,Ac]at h;subst h;exact⟨rfl,rfl⟩
 |B=>intro f x y h;cases f<;>simp only[cv,reduceCtorEq,Ac]at h;subst h;exact⟨rfl,rfl⟩
 |S=>intro f x y h;cases f<;>simp only[cv,reduceCtorEq,Ac]at h;subst h;exact⟨rfl,rfl⟩
 |L a _=>
  intro f x y h;cases f with
  |L b=>simp only[cv]at h;split at h<;>simp at h;rename_i e;subst e;subst h;exact⟨rfl,rfl⟩
  |H b=>simp only[cv]at h;split at h<;>simp at h;rename_i e;subst e;subst h;exact⟨rfl,rfl⟩
  |_=>simp[cv]at h
 |H a _=>
  intro f x y h;cases f with
  |L b=>
   cases x with
   |none=>simp[cv]at h
   |some x=>simp only[cv]at h;split at h<;>simp at h;rename_i e;subst e;subst h;exact⟨rfl,rfl⟩
  |H b=>simp only[cv]at h;split at h<;>simp at h;rename_i e;subst e;subst h;exact⟨rfl,rfl⟩
  |_=>simp[cv]at h
 |P a b q r=>
  intro f x y h;cases f with
  |P c d=>
   simp only[cv]at h;split at h
   .rename_i u v o p;simp only[Ac]at h;subst h;obtain⟨i,j⟩:=q _ _ _ o;obtain⟨l,m⟩:=r _ _ _ p;exact⟨by simp only[Ty.n,i,l],by simp only[Al,j,m]⟩
   simp at h
  |_=>simp[cv]at h
def o6{t c:Ty}:∀{a:List t.den}{b:List c.den},Ge t c a=some b->a.map (Al t)=b.map (Al c)/\b.length=a.length/\(t.n=c.n\/a=[])
 |[],b,h=>by simp only[Ge,Ac]at h;subst h;exact⟨rfl,rfl,.inr rfl⟩
 |x::a,b,h=>by
  simp only[Ge]at h;split at h
  .rename_i y m i j;simp only[Ac]at h;subst h;obtain⟨d,e⟩:=yX _ _ _ _ i;obtain⟨f,g,_⟩:=o6 j;exact⟨by simp only[A2,e,f],by simp[g],.inl d⟩
  simp at h
def cU{β:Type}(R:AK)(t:Ty)(c:XC)(f:List t.den->Option β):Option β:=match c with
 |.nl n=>match Nat.beq n t.n with
  |true=>f []
  |false=>none
 |.rw r=>NL R (.rw r) λb a=>Qb b t a f
 |.rv r d n=>A3 (QI d n) (NL R (.rv r d n) λb a=>Qb b t a f)
 |.rf r v p d b a=>A3 (QI d a.length) (NL R (.rf r v p d b a) λb a=>Qb b t a f)
 |_=>none
def FL{β:Type}(R:AK):(t:Ty)->List XC->(t.den->List XC->Option β)->Option β
 |.I k,c::d,f=>match JQ c with
  |some (g,z)=>match JG k g with
   |true=>f z d
   |false=>none
  |none=>none
 |.Y,c::d,f=>match c with
  |.y b=>f b d
  |_=>none
 |.B,c::d,f=>match c with
  |.b x=>f x d
  |_=>none
 |.S,c::d,f=>match c with
  |.s l=>f l d
  |_=>none
 |.L t,c::d,f=>cU R t c λe=>f e d
 |.H t,c::d,f=>cU R t c λe=>f (some e) d
 |.P a b,d,f=>FL R a d λx d=>FL R b d λy d=>f (x,y) d
 |_,[],_=>none
def QK{β:Type}(R:AK)(t:Ty):Nat->List XC->(List t.den->Option β)->Option β
 |0,a,f=>match a with
  |[]=>f []
  |_=>none
 |n+1,a,f=>FL R t a λx a=>QK R t n a λb=>f (x::b)
def CD(R:AK)(c:XC)(d:D):Prop:=
 (∃v,cC R c=.lf v/\d=.lf v)\/(∃n,c=.nl n/\d=.sl n []) \/
 ∃(t:Ty) (a:List t.den) (r:Nat) (p:Ao) (b:Nat) (l:List (List D)),cC R c=.rf r p t.n b a.length/\D5 R r p=some (t.n,l)/\b+a.length<=l.length/\(l.drop b).take a.length=a.map (Al t)/\d=.sl t.n (a.map (Al t))/\(b=0\/0<a.length)
def CD.ne{R:AK}{c:XC}{d:D}(h:CD R c d):cC R c≠.un:=by
 rcases h with ⟨v,h,_⟩|⟨n,h,_⟩|⟨t,b,r,p,a,l,h,_⟩
 .rw[h];simp
 .rw[h];simp[cC]
 rw[h];simp
def Sj{β:Type}{t c:Ty}{d:List t.den}{f:List c.den->Option β}{b:β}(h:Ou t c d f=some b):∃a:List c.den,f a=some b/\t=c/\d.map (Al t)=a.map (Al c)/\a.length=d.length:=by
 unfold Ou at h;split at h
 .rename_i e;subst e;exact⟨d,h,rfl,rfl,rfl⟩
 simp at h
def nz{β:Type}{t g:Ty}{i:List t.den}{f:List g.den->Option β}{d:β}(h:Qb t g i f=some d):∃c:List g.den,f c=some d/\t.n=g.n/\i.map (Al t)=c.map (Al g)/\c.length=i.length:=by
 unfold Qb at h;split at h
 .rename_i e;subst e;exact⟨i,h,rfl,rfl,rfl⟩
 split at h
 .rename_i k;obtain⟨c,j,h⟩:=G6 h;obtain⟨a,b,_⟩:=o6 j;exact⟨c,h,B6 k,a,b⟩
 simp at h
def vC{β:Type}{R:AK}{y A:Nat}{t:Ty}{c:XC}{f:List t.den->Option β}{a:β}(j:Bj R y A c)(h:cU R t c f=some a):∃b,f b=some a/\CD R c (.sl t.n (b.map (Al t))):=by
 have i:∀{c:XC},Bj R y A c->NL R c (λu b=>Qb u t b f)=some a->(∀r p s g n,cC R c=.rf r p s g n->g=0\/0<n)->∃b,f b=some a/\CD R c (.sl t.n (b.map (Al t))):=by
  intro c j h H;obtain⟨u,b,r,p,g,l,d,J,x,E,F,G⟩:=lv j h;obtain⟨k,B,w,D,m⟩:=nz d;refine⟨k,B,.inr (.inr ⟨t,k,r,p,g,l,by rw[m,<-w];exact x,by rw[<-w];exact E,by rw[m];exact F,by rw[m,G,D],rfl,by rw[m];exact H _ _ _ _ _ x⟩)⟩
 unfold cU at h;split at h
 .split at h
  .rename_i n o;have o:=B6 o;subst o;exact⟨[],h,.inr (.inl ⟨_,rfl,rfl⟩)⟩
  simp at h
 .rename_i r;refine i j h ?_;intro z p s g n e;simp only[cC]at e;split at e
  .simp only[C.rf.injEq]at e;exact .inl e.2.2.2.1.symm
  .simp only[C.rf.injEq]at e;exact .inl e.2.2.2.1.symm
  simp at e
 .rename_i r g n;obtain⟨d,h⟩:=Es h;refine i j h ?_;intro z p s q I e;simp only[QI,AA]at d;simp only[cC]at e;split at e
  .simp only[C.rf.injEq]at e;obtain⟨_,_,_,rfl,rfl⟩:=e;exact d
  .simp only[C.rf.injEq]at e;obtain⟨_,_,_,rfl,rfl⟩:=e;exact d
  simp at e
 .rename_i r v p g u b;obtain⟨d,h⟩:=Es h;refine i j h ?_;intro z p s q I e;simp only[QI,AA]at d;simp only[cC]at e;split at e
  .simp only[C.rf.injEq]at e;obtain⟨_,_,_,rfl,rfl⟩:=e;exact d
  simp at e
 simp at h
def Mg{β:Type}{R:AK}{nx st:Nat}:∀(t:Ty) (e:List XC) (f:t.den->List XC->Option β) (d:β),(∀c∈e,Bj R nx st c)->FL R t e f=some d ->
  ∃x j i,e=j++i/\f x i=some d/\Ai (CD R) j (Al t x)
 |.I k,c::e,f,d,g,h=>by
  simp only[FL]at h;split at h
  .rename_i C z A;split at h
   .rename_i o;simp only[JG,AA]at o;subst o;exact⟨z,[c],e,rfl,h,⟨.inl ⟨_,Mn A,rfl⟩,trivial⟩⟩
   simp at h
  simp at h
 |.Y,c::e,f,d,g,h=>by
  simp only[FL]at h;split at h
  .rename_i b;exact⟨b,[_],e,rfl,h,⟨.inl ⟨_,rfl,rfl⟩,trivial⟩⟩
  simp at h
 |.B,c::e,f,d,g,h=>by
  simp only[FL]at h;split at h
  .rename_i b;exact⟨b,[_],e,rfl,h,⟨.inl ⟨_,rfl,rfl⟩,trivial⟩⟩
  simp at h
 |.S,c::e,f,d,g,h=>by
  simp only[FL]at h;split at h
  .rename_i b;exact⟨b,[_],e,rfl,h,⟨.inl ⟨_,rfl,rfl⟩,trivial⟩⟩
  simp at h
 |.L t,c::e,f,d,g,h=>by
  simp only[FL]at h;obtain⟨n,l,m⟩:=vC (g c B5) h;exact⟨n,[c],e,rfl,l,⟨m,trivial⟩⟩
 |.H t,c::e,f,d,g,h=>by
  simp only[FL]at h;obtain⟨n,l,m⟩:=vC (g c B5) h;exact⟨some n,[c],e,rfl,l,⟨m,trivial⟩⟩
 |.P a b,e,f,d,g,h=>by
  simp only[FL]at h;obtain⟨x,p,q,rfl,l,m⟩:=Mg a e _ d g h;obtain⟨y,r,s,rfl,u,v⟩:=Mg b q _ d (λc w=>g c (Jh _ w)) l;exact⟨(x,y),p++r,s,by simp,u,Ai.append m v⟩
 |.I _,[],_,_,_,h=>by simp[FL]at h
 |.Y,[],_,_,_,h=>by simp[FL]at h
 |.B,[],_,_,_,h=>by simp[FL]at h
 |.S,[],_,_,_,h=>by simp[FL]at h
 |.L _,[],_,_,_,h=>by simp[FL]at h
 |.H _,[],_,_,_,h=>by simp[FL]at h
def bc{β:Type}{R:AK}{nx st:Nat}{t:Ty}:∀(n:Nat) (b:List XC) (f:List t.den->Option β) (a:β),(∀c∈b,Bj R nx st c)->QK R t n b f=some a ->
  ∃d,f d=some a/\d.length=n/\Ai (CD R) b (d.map (Al t)).flatten
 |0,b,f,a,e,h=>by
  simp only[QK]at h;split at h
  .exact⟨[],h,rfl,trivial⟩
  simp at h
 |n+1,b,f,a,e,h=>by
  simp only[QK]at h;obtain⟨x,p,g,rfl,i,j⟩:=Mg t b _ a e h;obtain⟨d,k,l,m⟩:=bc n g _ a (λc o=>e c (Jh _ o)) i;refine⟨x::d,k,by simp[l], ?_⟩;simp only[A2,Ji];exact Ai.append j m
def KN{R:AK}:∀{a:List XC}{e:List D}{b:List C},Ai (CD R) a e->Ai Ba b (a.map (cC R))->b=a.map (cC R)
 |[],[],[],_,_=>rfl
 |c::a,d::e,y::b,h,f=>by
  simp only[A2];rw[<-KN h.2 f.2,f.1.eq h.1.ne]
 |[],_::_,_,h,_=>h.elim
 |_::_,[],_,h,_=>h.elim
 |[],[],_::_,_,h=>h.elim
 |_::_,_::_,[],_,h=>h.elim
def EB(R:AK)(c:XC):Option (Option Nat):=match c with
 |.nl _=>some none
 |.lf _=>some none
 |.i _ _=>some none
 |.y _=>some none
 |.b _=>some none
 |.s _=>some none
 |.rw r=>match lk R r with
  |some (_,.tr _ _)=>some (some r)
  |_=>none
 |.rv r a _=>match lk R r with
  |some (_,.tr _ _)=>match a with
   |0=>some (some r)
   |_=>none
  |_=>none
 |_=>none
def Fw(R:AK):List XC->Option (List Nat)
 |[]=>some []
 |c::a=>match EB R c,Fw R a with
  |some (some r),some l=>some (r::l)
  |some none,some l=>some l
  |_,_=>none
def LI(r:Nat):List Nat->Bool
 |[]=>false
 |x::l=>match Nat.beq x r with
  |true=>true
  |false=>LI r l
def Mc:List Nat->Bool
 |[]=>true
 |r::l=>match LI r l with
  |true=>false
  |false=>Mc l
def V8{r:Nat}:∀{l:List Nat},LI r l=true ↔ r∈l
 |[]=>by simp[LI]
 |x::l=>by
  simp only[LI];split
  .rename_i h;simp[B6 h]
  rename_i h;have:=UH h;rw[V8,AX];exact⟨.inr,λh=>h.resolve_left λe=>this e.symm⟩
def OX:∀{l:List Nat},Mc l=true->l.Nodup
 |[],_=>dr
 |r::l,h=>by
  simp only[Mc]at h;split at h
  .simp at h
  rename_i a;rw[E4];exact⟨λb=>by rw[V8.2 b]at a;simp at a,OX h⟩
def oY(a:List (Nat×Root))(r:Nat):BV a r []=BR a r:=rfl
def Ta{X:XSt}{S:St}(J:SimX X S){c:XC}{d:D}(h:CD X.roots c d){o:Option Nat}(f:EB X.roots c=some o){roots:List (Nat×Root)}(K:∀r,o=some r->get roots r=get S.roots r):
  DZ roots (cC X.roots c)=some (d,Fh roots o):=by
 have j:∀{v:Value},cC X.roots c=.lf v->o=none->DZ roots (cC X.roots c)=some (d,Fh roots o):=by
  intro v L e;subst e;rcases h with ⟨O,g,rfl⟩|⟨n,rfl,_⟩|⟨t,E,r,p,A,l,g,_⟩
  .rw[g];rfl
  .simp[cC]at L
  rw[L]at g;simp at g
 cases c with
 |nl n=>
  simp only[EB,Ac]at f;subst f;rcases h with ⟨v,g,_⟩|⟨m,g,rfl⟩|⟨t,E,r,p,A,l,g,_⟩
  .simp[cC]at g
  .simp only[XC.nl.injEq]at g;subst g;rfl
  simp[cC]at g
 |lf v=>simp only[EB,Ac]at f;exact j rfl f.symm
 |i k z=>simp only[EB,Ac]at f;exact j rfl f.symm
 |y b=>simp only[EB,Ac]at f;exact j rfl f.symm
 |b x=>simp only[EB,Ac]at f;exact j rfl f.symm
 |s l=>simp only[EB,Ac]at f;exact j rfl f.symm
 |rw r=>
  simp only[EB]at f;split at f
  .rename_i s t I q;simp only[Ac]at f;subst f;obtain⟨y,a,b⟩:=J.roots r s _ q _ rfl;have H:get roots r=some (.tr t.n (I.map (Al t))):=by
    rw[K r rfl,a];cases y with
    |tr _ _=>obtain⟨rfl,rfl⟩:=b;rfl
    |_=>exact b.elim
   rcases h with ⟨v,g,_⟩|⟨m,g,_⟩|⟨N,E,M,p,A,l,g,u,G,w,rfl,_⟩
   .simp[cC,q]at g
   .simp at g
   simp only[cC,q,C.rf.injEq]at g;obtain⟨rfl,rfl,F,rfl,B⟩:=g;simp only[D5,q,AH,Ac,A5]at u;obtain⟨_,rfl⟩:=u;simp only[cC,q,DZ,H,AH,B3,AE,and_self,BF,oY,Fh];rw[AJ,<-B,F3 (by simp)]at w;rw[F3 (by simp),<-w,F]
  simp at f
 |rv r A n=>
  simp only[EB]at f;split at f
  .rename_i s t I q;split at f
   .simp only[Ac]at f;subst f;obtain⟨y,a,b⟩:=J.roots r s _ q _ rfl;have H:get roots r=some (.tr t.n (I.map (Al t))):=by
     rw[K r rfl,a];cases y with
     |tr _ _=>obtain⟨rfl,rfl⟩:=b;rfl
     |_=>exact b.elim
    rcases h with ⟨v,g,_⟩|⟨m,g,_⟩|⟨N,E,M,p,A,l,g,u,G,w,rfl,_⟩
    .simp[cC,q]at g
    .simp at g
    simp only[cC,q,C.rf.injEq]at g;obtain⟨rfl,rfl,F,rfl,B⟩:=g;simp only[D5,q,AH,Ac,A5]at u;obtain⟨_,rfl⟩:=u;simp only[B3,A7,<-B]at G;simp only[cC,q,DZ,H,AH,B3,G,and_self,BF,oY,Fh];rw[AJ,<-B]at w;rw[w,F]
   simp at f
  simp at f
 |un=>simp[EB]at f
 |rf r v p A t E=>simp[EB]at f
 |pe r v p i c t x=>simp[EB]at f
 |pb r c=>simp[EB]at f
def Tz{X:XSt}{S:St}(m:SimX X S):∀(i:List XC) (k:List D) (b:List Nat) (a:List (Nat×Root)),Ai (CD X.roots) i k->Fw X.roots i=some b->b.Nodup->(∀r∈b,get a r=get S.roots r) ->
  ∃j,Dd a (i.map (cC X.roots))=some (k,j)/\∀r,get j r=if r∈b then none else get a r
 |[],[],b,a,_,g,_,_=>by
  simp only[Fw,Ac]at g;subst g;exact⟨a,rfl,λr=>by simp⟩
 |c::i,d::k,b,a,h,g,n,v=>by
  simp only[Fw]at g;split at g
  .rename_i r l s t;simp only[Ac]at g;subst g;rw[E4]at n;have e:=Ta m h.1 s (roots:=a) (λq f=>by simp only[Ac]at f;subst f;exact v _ B5);obtain⟨j,o,p⟩:=Tz m i k l (BR a r) h.2 t n.2 (λq f=>by
    rw[Ii,Ae (λe=>n.1 (by rw[e];exact f))];exact v q (Bx _ f))
   refine⟨j, ?_,λq=>?_⟩
   .simp only[A2,Dd,e,Fh,o]
   rw[p q,Ii];by_cases f:q∈l
   .simp[f]
   by_cases u:r=q
   .subst u;simp
   rw[Ae f,Ae u,Ae (by simp only[AX,not_or];exact⟨λe=>u e.symm,f⟩)]
  .rename_i l s t;simp only[Ac]at g;subst g;have e:=Ta m h.1 s (roots:=a) (λq f=>by simp at f);obtain⟨j,o,p⟩:=Tz m i k l a h.2 t n v;exact⟨j,by simp only[A2,Dd,e,Fh,o],p⟩
  simp at g
 |[],_::_,_,_,h,_,_,_=>h.elim
 |_::_,[],_,_,h,_,_,_=>h.elim
def Vo:∀(l:List Nat) (X:XSt),(X.delRs l).env=X.env/\(X.delRs l).next=X.next/\(X.delRs l).fix=X.fix/\X.stamp<=(X.delRs l).stamp
 |[],X=>⟨rfl,rfl,rfl,AE _⟩
 |r::l,X=>by
  obtain⟨a,b,c,d⟩:=Vo l (X.setR r .gone);exact⟨a,b,c,CW (HR _) d⟩
def Kl:∀(l:List Nat) (X:XSt) (r:Nat),(r∈l->∃s,lk (X.delRs l).roots r=some (s,.gone))/\(r ∉ l->lk (X.delRs l).roots r=lk X.roots r)
 |[],X,r=>⟨λh=>by simp at h,λ_=>rfl⟩
 |q::l,X,r=>by
  obtain⟨a,b⟩:=Kl l (X.setR q .gone) r;refine⟨λh=>?_,λh=>?_⟩
  .by_cases c:r∈l
   .exact a c
   have:=(AX.1 h).resolve_right c;subst this;refine⟨X.stamp, ?_⟩;show lk ((X.setR r .gone).delRs l).roots r=_;rw[b c];simp only[XSt.setR];rw[BO,Af rfl]
  rw[AX,not_or]at h;show lk ((X.setR q .gone).delRs l).roots r=_;rw[b h.2];simp only[XSt.setR];rw[BO,Ae (λe=>h.1 e.symm)]
def q7{X:XSt}{S:St}(i:XOk X)(g:SimX X S){r:Nat}(k:r<X.next):XOk (X.setR r .gone)/\Ext X (X.setR r .gone)/\SimX (X.setR r .gone) S:=by
 obtain⟨a,b⟩:=LA i (x:=.gone) (AE _) k (λm h=>by simp at h);refine⟨a,b, ?_⟩;have:=NB (X':=X.setR r .gone) (ks:=[]) (roots:=S.roots) i g rfl rfl (λc j=>KL (.inr (.inl rfl)) j) ?_
 .have e:=g.next;obtain⟨E,R,n,f⟩:=S;simp only at e;subst e;exact this
 intro q s x d;simp only[XSt.setR]at d;rw[BO]at d;split at d
 .simp only[Ac,A5]at d;obtain⟨_,rfl⟩:=d;exact .inr λy l=>by simp[D1]at l
 exact .inl ⟨d,by rw[Li]⟩
def Vp:∀(l:List Nat){X:XSt}{S:St},XOk X->SimX X S->(∀r∈l,r<X.next)->XOk (X.delRs l)/\Ext X (X.delRs l)/\SimX (X.delRs l) S
 |[],X,S,e,d,_=>⟨e,Ext.refl X,d⟩
 |r::l,X,S,e,d,f=>by
  obtain⟨a,b,c⟩:=q7 e d (f r B5);obtain⟨g,h,i⟩:=Vp l a c (λq j=>f q (Bx _ j));exact⟨g,b.trans h,i⟩
def QE{X:XSt}(d:XOk X):∀{cs:List XC}{l:List Nat},Fw X.roots cs=some l->∀r∈l,r<X.next
 |[],l,h,r,b=>by simp only[Fw,Ac]at h;subst h;simp at b
 |c::cs,l,h,r,b=>by
  simp only[Fw]at h;split at h
  .rename_i q m a e;simp only[Ac]at h;subst h;rcases AX.1 b with rfl|b
   .cases c with
    |rw q=>
     simp only[EB]at a;split at a
     .rename_i f;simp only[Ac]at a;subst a;exact (d.ids _ _ _ f).1
     simp at a
    |rv q g n=>
     simp only[EB]at a;split at a
     .rename_i f;split at a
      .simp only[Ac]at a;subst a;exact (d.ids _ _ _ f).1
      simp at a
     simp at a
    |_=>simp[EB]at a
   exact QE d e r b
  .rename_i m a e;simp only[Ac]at h;subst h;exact QE d e r b
  simp at h
def Tw{X:XSt}{E:List (Nat×V)}{R d:List (Nat×Root)}{n f:Nat}(c:SimX X ⟨E,R,n,f⟩)(h:∀r s x,lk X.roots r=some (s,x)->x≠.gone->get d r=get R r):SimX X ⟨E,d,n,f⟩:=by
 refine⟨c.next,c.fix,c.env, ?_⟩;intro r s x g y i;obtain⟨j,a,b⟩:=c.roots r s x g y i;exact⟨j,by rw[show get d r=get R r from h r s x g (λe=>by subst e;simp[D1]at i)];exact a,b⟩
def OU{X:XSt}{E:List (Nat×V)}{R:List (Nat×Root)}{n f:Nat}(w:XOk X)(C:SimX X ⟨E,R,n,f⟩){x:XR}{y:Root}(A:∀g,x=.bx g->∀e∈g,e.1=X.stamp/\Bj X.roots X.next X.stamp e.2)(D:∃u,D1 X.roots x=some u/\H5 y u):
  XOk (X.newR x)/\Ext X (X.newR x)/\SimX (X.newR x) ⟨E,(X.next,y)::R,X.next+1,f⟩:=by
 obtain⟨a,b⟩:=LA w (x:=x) (HR _) (DG X.next) (λg h c e r=>by
  obtain⟨o,m⟩:=A g h e (CP r);exact⟨.inl o,m⟩)
 refine⟨a,b, ?_⟩;have k:∀c,Bj X.roots X.next X.stamp c->cC ((X.next,X.stamp,x)::X.roots) c=.un\/cC ((X.next,X.stamp,x)::X.roots) c=cC X.roots c:=λc p=>KL (.inl (AE _)) p;refine NB (X':=X.newR x) (ks:=[]) (roots:=(X.next,y)::R) w C rfl rfl k ?_;intro q s z j;simp only[XSt.newR]at j;rw[BO]at j;split at j
 .rename_i e;simp only at e;subst e;simp only[Ac,A5]at j;obtain⟨_,rfl⟩:=j;right;intro G d;obtain⟨u,i,l⟩:=D;refine⟨y,by simp[get], ?_⟩;cases x with
  |tr t F=>simp only[D1,Ac]at i d;subst i d;exact l
  |im t F=>simp only[D1,Ac]at i d;subst i d;exact l
  |gone=>simp[D1]at d
  |bx g=>
   simp only[D1,Ac]at i d;subst i d;cases y with
   |bx v=>
    have o:Ai Ba v ((g.map (·.2)).map (cC X.roots)):=by rw[GO];exact l
    have m:=TB (ks:=[]) k (λc p=>by
     obtain⟨e,r,rfl⟩:=CC.1 p;exact (A g rfl e r).2) o
    have B:v.map (BE [])=v:=by
     have:BE []=λc=>c:=by funext c;rfl
     rw[this];simp
    rw[B,GO]at m;exact m
   |_=>exact l.elim
 rename_i e;left;refine⟨j, ?_⟩;rw[Li];simp only[get];rw[Ae e]
def kh{X:XSt}{E:List (Nat×V)}{R:List (Nat×Root)}{n f:Nat}(k:XOk X)(l:SimX X ⟨E,R,n,f⟩){r s:Nat}{t j:Ty}{xs:List t.den}{d:List j.den}(m:lk X.roots r=some (s,.tr j d))(u:t.n=j.n)(i:xs.length=d.length):
  XOk (X.setR r (.tr t xs))/\Ext X (X.setR r (.tr t xs))/\SimX (X.setR r (.tr t xs)) ⟨E,put R r (.tr t.n (xs.map (Al t))),n,f⟩:=by
 obtain⟨a,b⟩:=LA k (x:=.tr t xs) (AE _) (k.ids _ _ _ m).1 (λv h=>by simp at h);refine⟨a,b, ?_⟩;have:=NB (X':=X.setR r (.tr t xs)) (ks:=[]) (roots:=put R r (.tr t.n (xs.map (Al t)))) k l rfl rfl (λc p=>nk (.inr (.inr (.inr ⟨t,j,xs,d,s,rfl,m,u,i⟩))) p) ?_
 .have e:n=X.next:=l.next;subst e;exact this
 intro q s z g;simp only[XSt.setR]at g;rw[BO]at g;split at g
 .rename_i e;simp only at e;subst e;simp only[Ac,A5]at g;obtain⟨_,rfl⟩:=g;right;intro y o;simp only[D1,Ac]at o;subst o;exact⟨.tr t.n (xs.map (Al t)),by rw[Bn,Af rfl],rfl,rfl⟩
 rename_i e;exact .inl ⟨g,by rw[Li,Bn,Ae e]⟩
abbrev Tk:=Nat×Option (Nat×Nat)
def T3(R:AK)(c:XC):Option (Option Tk):=match c with
 |.rf r v p a _ _=>match p,a with
  |[(i,c)],0=>match lk R r with
   |some (b,.tr _ _)=>match Nat.beq b v with
    |true=>some (some (r,some (i,c)))
    |false=>none
   |_=>none
  |_,_=>none
 |c=>match EB R c with
  |some (some r)=>some (some (r,none))
  |some none=>some none
  |none=>none
def Pm(R:AK):List XC->Option (List Tk)
 |[]=>some []
 |c::b=>match T3 R c,Pm R b with
  |some (some a),some l=>some (a::l)
  |some none,some l=>some l
  |_,_=>none
def T1(a b:Tk):Bool:=match Nat.beq a.1 b.1 with
 |false=>true
 |true=>match a.2,b.2 with
  |some x,some y=>match Nat.beq x.2 y.2 with
   |true=>false
   |false=>true
  |_,_=>false
def WS(a:Tk):List Tk->Bool
 |[]=>true
 |b::l=>match T1 a b with
  |true=>WS a l
  |false=>false
def WR:List Tk->Bool
 |[]=>true
 |a::l=>match WS a l with
  |true=>WR l
  |false=>false
def Ll:(t:Ty)->Nat->t.den->Option t.den
 |.H _,c,_=>match c with
  |0=>some none
  |_=>none
 |.P a b,c,x=>match Nat.ble a.n c with
  |false=>match Ll a c x.1 with
   |some y=>some (y,x.2)
   |none=>none
  |true=>match Ll b (c-a.n) x.2 with
   |some y=>some (x.1,y)
   |none=>none
 |_,_,_=>none
def T2{β:Type}:List Tk->XSt->(XSt->Option β)->Option β
 |[],X,k=>k X
 |(r,none)::l,X,k=>T2 l (X.setR r .gone) k
 |(r,some (i,c))::l,X,k=>match lk X.roots r with
  |some (_,.tr T a)=>Aa (idx a (Int.ofNat i)) λx=>match Ll T c x with
   |some b=>T2 l (X.setR r (.tr T (BS a i b))) k
   |none=>none
  |_=>none
def jh:∀(t:Ty) (c:Nat) (x y:t.den),Ll t c x=some y->c<t.n/\Al t y=(Al t x).set c .hole
 |.H a,c,x,y,h=>by
  unfold Ll at h;cases c with
  |zero=>simp only[Ac]at h;subst h;exact⟨DG _,rfl⟩
  |succ c=>simp at h
 |.P a b,c,x,y,h=>by
  unfold Ll at h;split at h
  .rename_i d;have f:c<a.n:=dt λg=>by rw[mh g]at d;simp at d
   split at h
   .rename_i z i;simp only[Ac]at h;subst h;obtain⟨j,e⟩:=jh a c x.1 z i;refine⟨by simp only[Ty.n];omega, ?_⟩;simp only[Al];rw[mi _ _ (by rw[Cv];exact f),e]
   simp at h
  rename_i d;have f:=AS d;split at h
  .rename_i z i;simp only[Ac]at h;subst h;obtain⟨j,e⟩:=jh b (c-a.n) x.2 z i;refine⟨by simp only[Ty.n];omega, ?_⟩;simp only[Al];rw[Yu _ _ (by rw[Cv];exact f),Cv,e]
  simp at h
 |.I _,c,x,y,h=>by simp[Ll]at h
 |.Y,c,x,y,h=>by simp[Ll]at h
 |.B,c,x,y,h=>by simp[Ll]at h
 |.S,c,x,y,h=>by simp[Ll]at h
 |.L _,c,x,y,h=>by simp[Ll]at h
def Znj{b:List (List D)}{i c j d:Nat}{z:D}(h:i≠j\/c≠d)(k:Nat):AH k (Gk b i c z) [(j,d)]=AH k b [(j,d)]:=by
 unfold Gk;cases g:b[i]? with
 |none=>rfl
 |some e=>
  simp only[AH];by_cases a:i=j
  .subst a;have f:i<b.length:=(CY.1 g).1;rw[L6 f,g];simp only[DF];rw[MJ (h.resolve_left (λh=>h rfl))]
  rw[MJ a]
def Kf(e a:List (Nat×Root)):Tk->Prop
 |(r,none)=>get a r=get e r
 |(r,some (i,c))=>∃d f b,get e r=some (.tr d b)/\get a r=some (.tr d f)/\AH d f [(i,c)]=AH d b [(i,c)]
def v6{a b:Tk}(h:T1 a b=true):a.1≠b.1\/∃x y,a.2=some x/\b.2=some y/\x.2≠y.2:=by
 unfold T1 at h;split at h
 .rename_i c;exact .inl (UH c)
 split at h
 .rename_i x y d e;split at h
  .simp at h
  rename_i c;exact .inr ⟨x,y,d,e,UH c⟩
 simp at h
def v7{a:Tk}:∀{l:List Tk},WS a l=true->∀b∈l,T1 a b=true
 |[],_,b,d=>by simp at d
 |c::l,h,b,d=>by
  simp only[WS]at h;split at h
  .rename_i e;rcases AX.1 d with rfl|d
   .exact e
   exact v7 h b d
  simp at h
def Zb7{m a:List (Nat×Root)}{r i c t:Nat}{n:List (List D)}{z:D}{b:Tk}(B:get a r=some (.tr t n))(h:T1 (r,some (i,c)) b=true)(e:Kf m a b):Kf m (put a r (.tr t (Gk n i c z))) b:=by
 obtain⟨q,o⟩:=b;rcases v6 h with g|⟨x,y,p,s,A⟩
 .have g:r≠q:=g;cases o with
  |none=>simp only[Kf]at e ⊢;rw[Bn,Ae g];exact e
  |some C=>obtain⟨j,d⟩:=C;simp only[Kf]at e ⊢;rw[Bn,Ae g];exact e
 simp only[Ac]at p s;subst p s;obtain⟨j,d⟩:=y;by_cases f:r=q
 .subst f;obtain⟨E,w,l,u,k,v⟩:=e;rw[B]at k;simp only[Ac,Root.tr.injEq]at k;obtain⟨rfl,rfl⟩:=k;exact⟨_,_,l,u,by rw[Bn,Af rfl],by rw[Znj (.inr A)];exact v⟩
 simp only[Kf]at e ⊢;rw[Bn,Ae f];exact e
def Zb6{f a:List (Nat×Root)}{r:Nat}{b:Tk}(h:T1 (r,none) b=true)(e:Kf f a b):Kf f (BR a r) b:=by
 obtain⟨q,o⟩:=b;rcases v6 h with c|⟨x,y,g,k,l⟩
 .have c:r≠q:=c;cases o with
  |none=>simp only[Kf]at e ⊢;rw[Ii,Ae c];exact e
  |some i=>obtain⟨j,d⟩:=i;simp only[Kf]at e ⊢;rw[Ii,Ae c];exact e
 simp at g
def yB{X:XSt}{S:St}(B:SimX X S){r v i c:Nat}{t:Ty}{q:List t.den}{d:D}(h:CD X.roots (.rf r v [(i,c)] 0 t q) d)(m:Dp X.roots r v=true){a:List (Nat×Root)}(E:Kf S.roots a (r,some (i,c))):
  ∃f b,get a r=some (.tr f b)/\DZ a (cC X.roots (.rf r v [(i,c)] 0 t q))=some (d,put a r (.tr f (Gk b i c .hole))):=by
 obtain⟨f,b,x,y,g,z⟩:=E;refine⟨f,b,g, ?_⟩;rcases h with ⟨u,e,_⟩|⟨n,e,_⟩|⟨F,G,J,p,I,l,e,A,H,o,rfl,_⟩
 .simp[cC,m]at e
 .simp at e
 simp only[cC,m,C.rf.injEq]at e;obtain⟨rfl,rfl,s,rfl,w⟩:=e;have j:=ST B A;unfold EA at j;rw[y]at j;have k:AH f b [(i,c)]=some (F.n,l):=z.trans j;simp only[cC,m,DZ,g,k,s,w];rw[Af ⟨trivial,by omega⟩];rw[AJ]at o;rw[o];simp only[BV,g];rw[show Qg b [(i,c)]=Gk b i c .hole from fi b [] i c]
def lL{R : AK}{c : XC}(h : ∀ r v p d t e, c ≠ .rf r v p d t e){o : Option Tk}(a : T3 R c = some o) : (o = none ∧ EB R c = some none) ∨ ∃ r, o = some (r, none) ∧ EB R c = some (some r) := by
  cases c <;> first
    |(exfalso; exact h _ _ _ _ _ _ rfl)
    | (simp only [T3] at a
       split at a
       · rename_i r b; simp only[Ac] at a; exact .inr ⟨r, a.symm, b⟩
       · rename_i b; simp only[Ac] at a; exact .inl ⟨a.symm, b⟩
       · simp at a)
def cg{β:Type}{a4:β}{X:XSt}{S:St}(F:XOk X)(L:SimX X S){k:XSt->Option β}:∀(I:List XC) (O:List D) (B:List Tk) (w:XSt) (f:List (Nat×Root)),Ai (CD X.roots) I O->Pm X.roots I=some B->WR B=true->XOk w->SimX w ⟨S.env,f,S.next,S.fix⟩ ->
  (∀a∈B,Kf S.roots f a)->T2 B w k=some a4 ->
  ∃y H,k y=some a4/\Dd f (I.map (cC X.roots))=some (O,H)/\XOk y/\Ext w y/\SimX y ⟨S.env,H,S.next,S.fix⟩/\y.env=w.env/\y.next=w.next/\∀r s x,lk y.roots r=some (s,x)->s<w.stamp->get H r=get f r
 |[],[],B,w,f,_,C,_,W,E,_,h=>by
  simp only[Pm,Ac]at C;subst C;exact⟨w,f,h,rfl,W,Ext.refl _,E,rfl,rfl,λ_ _ _ _ _=>rfl⟩
 |c::I,d::O,B,w,f,A,C,n,W,E,g,h=>by
  simp only[Pm]at C;have nx:S.next=w.next:=E.next;split at C
  .rename_i a l m hl;simp only[Ac]at C;subst C;have u:WS a l=true/\WR l=true:=by
    simp only[WR]at n;split at n
    .rename_i E;exact⟨E,n⟩
    simp at n
   have J:=v7 u.1;by_cases a0:∃r v p M t N,c=.rf r v p M t N
   .obtain⟨r,v,p,M,t,N,rfl⟩:=a0;simp only[T3]at m;split at m
    .rename_i i j;split at m
     .rename_i v' T0 a9 a6;split at m
      .rename_i G;have G:=B6 G;subst G;simp only[Ac]at m;subst m;obtain⟨sz,es,g1,g2⟩:=yB L A.1 (Lu a6) (g _ B5);simp only[T2]at h;split at h
       .rename_i s1 T xs Y;obtain⟨x,hx,h⟩:=G6 h;split at h
        .rename_i x' hp;obtain⟨p1,p2⟩:=jh T j x x' hp;obtain⟨z,z1,z2⟩:=E.roots r s1 _ Y _ rfl;simp only at z1;rw[g1]at z1;simp only[Ac]at z1;subst z1;obtain⟨rfl,rfl⟩:=z2;have a8:xs[i]?= some x:=by simpa[idx] using hx
         have K:Gk (xs.map (Al T)) i j .hole=(BS xs i x').map (Al T):=by
          simp only[Gk,CQ,a8,Dg,BS,RP,p2]
         obtain⟨a1,a2,a3⟩:=kh (t:=T) (xs:=BS xs i x') W E Y rfl (by simp[BS]);rw[K]at g2;obtain⟨y,H,Q,R,U,V,c5,c6,c7,c8⟩:=cg F L I O l _ _ A.2 hl u.2 a1 a3 (λb G=>by
          rw[<-K];exact Zb7 g1 (J b G) (g b (Bx _ G))) h
         refine⟨y,H,Q, ?_,U,a2.trans V,c5,c6,c7,λq s x o hs=>?_⟩
         .simp only[A2,Dd,g2,R]
         rw[c8 q s x o (G5 hs),Bn];split
         .rename_i e;subst e;have:=V.roots r s x o (G5 hs);simp only[XSt.setR]at this;rw[BO,Af rfl]at this;simp only[Ac,A5]at this;omega
         rfl
        simp at h
       simp at h
      simp at m
     simp at m
    simp at m
   rcases lL (λr v p M t N e=>a0 ⟨r,v,p,M,t,N,e⟩) m with ⟨P,_⟩|⟨r,P,ho⟩
   .simp at P
   simp only[Ac]at P;subst P;have hg:=Ta L A.1 ho (roots:=f) (λq o=>by
    simp only[Ac]at o;subst o;exact g _ B5)
   have a7:r<w.next:=by
    rw[<-nx,L.next];exact QE F (cs:=[c]) (l:=[r]) (by simp only[Fw,ho]) r B5
   simp only[T2]at h;obtain⟨a1,a2,a3⟩:=q7 W E a7;have a5:SimX (w.setR r .gone) ⟨S.env,BR f r,S.next,S.fix⟩:=by
    refine Tw a3 λq s x o hx=>?_;simp only[XSt.setR]at o;rw[BO]at o;split at o
    .simp only[Ac,A5]at o;exact (hx o.2.symm).elim
    rename_i e;rw[Ii,Ae e]
   obtain⟨y,H,Q,R,U,V,c5,c6,c7,c8⟩:=cg F L I O l _ _ A.2 hl u.2 a1 a5 (λb G=>Zb6 (J b G) (g b (Bx _ G))) h;refine⟨y,H,Q, ?_,U,a2.trans V,c5,c6,c7,λq s x o hs=>?_⟩
   .simp only[A2,Dd,hg,Fh,R]
   rw[c8 q s x o (G5 hs),Ii];split
   .rename_i e;subst e;have:=V.roots r s x o (G5 hs);simp only[XSt.setR]at this;rw[BO,Af rfl]at this;simp only[Ac,A5]at this;omega
   rfl
  .rename_i l m hl;simp only[Ac]at C;subst C;have Z:∀r v p M t N,c≠.rf r v p M t N:=by
    intro r v p M t N e;subst e;simp only[T3]at m;split at m
    .split at m
     .split at m<;>simp at m
     simp at m
    simp at m
   rcases lL Z m with ⟨_,ho⟩|⟨r,P,_⟩
   .have hg:=Ta L A.1 ho (roots:=f) (λq o=>by simp at o);obtain⟨y,H,Q,R,U⟩:=cg F L I O l _ _ A.2 hl n W E g h;exact⟨y,H,Q,by simp only[A2,Dd,hg,Fh,R],U⟩
   simp at P
  simp at C
 |[],_::_,_,_,_,h,_,_,_,_,_,_=>h.elim
 |_::_,[],_,_,_,h,_,_,_,_,_,_=>h.elim
def lM{X:XSt}{S:St}(n:SimX X S):∀{s:List XC}{f:List Tk},Pm X.roots s=some f->∀a∈f,Kf S.roots S.roots a
 |[],f,h,a,g=>by simp only[Pm,Ac]at h;subst h;simp at g
 |c::s,f,h,a,g=>by
  simp only[Pm]at h;split at h
  .rename_i b l d o;simp only[Ac]at h;subst h;rcases AX.1 g with rfl|g
   .by_cases i:∃r v p k t m,c=.rf r v p k t m
    .obtain⟨r,v,p,k,t,m,rfl⟩:=i;simp only[T3]at d;split at d
     .split at d
      .rename_i B y w q;split at d
       .simp only[Ac]at d;subst d;obtain⟨z,u,x⟩:=n.roots r _ _ q _ rfl;cases z with
        |tr _ _=>exact⟨_,_,_,u,u,rfl⟩
        |_=>exact x.elim
       simp at d
      simp at d
     simp at d
    rcases lL (λr v p k t m e=>i ⟨r,v,p,k,t,m,e⟩) d with ⟨j,_⟩|⟨r,j,A⟩
    .simp at j
    simp only[Ac]at j;subst j;rfl
   exact lM n o a g
  .rename_i l d o;simp only[Ac]at h;subst h;exact lM n o a g
  simp at h
def hT:Ty->Ty
 |.L t=>.H t
 |.P a b=>.P (hT a) (hT b)
 |t=>t
def aR:∀t:Ty,(hT t).n=t.n
 |.I _=>rfl
 |.Y=>rfl
 |.B=>rfl
 |.S=>rfl
 |.L _=>rfl
 |.H _=>rfl
 |.P a b=>by simp only[hT,Ty.n,aR a,aR b]
def Rk:(t:Ty)->t.den->(hT t).den
 |.I _,z=>z
 |.Y,z=>z
 |.B,z=>z
 |.S,z=>z
 |.L _,c=>some c
 |.H _,o=>o
 |.P a b,x=>(Rk a x.1,Rk b x.2)
def SC:(t:Ty)->t.den->(hT t).den
 |.I _,z=>z
 |.Y,z=>z
 |.B,z=>z
 |.S,z=>z
 |.L _,_=>none
 |.H _,_=>none
 |.P a b,x=>(SC a x.1,SC b x.2)
def Iq(t:Ty)(a n:Nat)(b:List t.den):List (hT t).den:=(b.take a).map (Rk t)++(((b.drop a).take n).map (SC t)++(b.drop (a+n)).map (Rk t))
def ln:∀(t:Ty) (x:t.den),Al (hT t) (Rk t x)=Al t x
 |.I _,_=>rfl
 |.Y,_=>rfl
 |.B,_=>rfl
 |.S,_=>rfl
 |.L _,_=>rfl
 |.H _,_=>rfl
 |.P a b,x=>by simp only[hT,Rk,Al,ln a,ln b]
def iE:∀(t:Ty) (x:t.den),Al (hT t) (SC t x)=(Al t x).map OH
 |.I _,_=>rfl
 |.Y,_=>rfl
 |.B,_=>rfl
 |.S,_=>rfl
 |.L _,_=>rfl
 |.H _,none=>rfl
 |.H _,some _=>rfl
 |.P a b,x=>by simp only[hT,SC,Al,iE a,iE b,C2]
def Zkd(t:Ty)(a n:Nat)(b:List t.den):(Iq t a n b).map (Al (hT t))=LL a n (b.map (Al t)):=by
 have c:(Al (hT t) ∘ Rk t)=Al t:=by funext x;exact ln t x
 have d:(Al (hT t) ∘ SC t)=λx=>(Al t x).map OH:=by funext x;exact iE t x
 simp only[Iq,LL,C2,GO,c,d,Fp,F4];congr 2
def sF(t:Ty)(b n:Nat)(a:List t.den)(h:b+n<=a.length):(Iq t b n a).length=a.length:=by
 simp only[Iq,Cb,B3,EF,Di];omega
def Ma:Ty->Bool
 |.L _=>false
 |.P a b=>Ma a&&Ma b
 |_=>true
def Lg:(t:Ty)->t.den->t.den
 |.I _,z=>z
 |.Y,z=>z
 |.B,z=>z
 |.S,z=>z
 |.L _,z=>z
 |.H _,_=>none
 |.P a b,x=>(Lg a x.1,Lg b x.2)
def jZ:∀(t:Ty),Ma t=true->∀x:t.den,Al t (Lg t x)=(Al t x).map OH
 |.I _,_,_=>rfl
 |.Y,_,_=>rfl
 |.B,_,_=>rfl
 |.S,_,_=>rfl
 |.L _,h,_=>by simp[Ma]at h
 |.H _,_,none=>rfl
 |.H _,_,some _=>rfl
 |.P a b,h,x=>by
  simp only[Ma,A6]at h;simp only[Lg,Al,jZ a h.1,jZ b h.2,C2]
def SB:(t:Ty)->t.den
 |.I _=>(0:Int)
 |.Y=>(0:UInt8)
 |.B=>false
 |.S=>([]:List UInt8)
 |.L t=>([]:List t.den)
 |.H t=>(none:Option (List t.den))
 |.P a b=>(SB a,SB b)
def Ip{β:Type}(r v j:Nat):(t:Ty)->Nat->List XC->(t.den->List XC->Option β)->Option β
 |.I k,_,y::d,f=>match JQ y with
  |some (i,z)=>match JG k i with
   |true=>f z d
   |false=>none
  |none=>none
 |.Y,_,y::d,f=>match y with
  |.y b=>f b d
  |_=>none
 |.B,_,y::d,f=>match y with
  |.b x=>f x d
  |_=>none
 |.S,_,y::d,f=>match y with
  |.s l=>f l d
  |_=>none
 |.H u,c,y::d,f=>match y with
  |.rf o w p m q e=>match p,m with
   |[(h,g)],0=>match Nat.beq o r&&(Nat.beq w v&&Nat.beq g c) with
    |true=>A3 (Hq h j) (Ou q u e λe=>f (some e) d)
    |false=>none
   |_,_=>none
  |_=>none
 |.P a b,c,d,f=>Ip r v j a c d λx d=>Ip r v j b (c+a.n) d λy d=>f (x,y) d
 |_,_,_,_=>none
def gr:List XC->Option Nat
 |[]=>none
 |.rf _ _ p _ _ _::l=>match p with
  |[(j,_)]=>some j
  |_=>gr l
 |_::l=>gr l
def xS(r j c:Nat)(a:List D)(y:C)(d:D):Prop:=(∃u,y=.lf u/\d=.lf u)\/∃s n l,y=.rf r [(j,c)] s 0 n/\a[c]?= some (.sl s l)/\n<=l.length/\d=.sl s (l.take n)
def Jj(r j:Nat)(a:List D):Nat->List C->List D->Prop
 |_,[],[]=>True
 |c,y::e,d::b=>xS r j c a y d/\Jj r j a (c+1) e b
 |_,_,_=>False
def Jj.append{r j:Nat}{f:List D}:∀{c:Nat}{a:List C}{e:List D}{d:List C}{b:List D},Jj r j f c a e->Jj r j f (c+a.length) d b->Jj r j f c (a++d) (e++b)
 |_,[],[],_,_,_,h=>by simpa using h
 |c,_::a,_::e,_,_,h,g=>⟨h.1,Jj.append h.2 (by rw[show c+1+a.length=c+(a.length+1) by omega];exact g)⟩
 |_,[],_::_,_,_,h,_=>h.elim
 |_,_::_,[],_,_,h,_=>h.elim
def LY:List C->List D->List D
 |y::b,d::a=>(match y with
  |.lf _=>d
  |_=>.hole)::LY b a
 |_,a=>a
def sG:∀{e:List C}{c:List D}{b:List C}{a:List D},e.length=c.length->LY (e++b) (c++a)=LY e c++LY b a
 |[],[],b,a,_=>by cases b<;>cases a<;>rfl
 |y::e,d::c,b,a,h=>by
  simp only[A1,LY];rw[sG (by simpa using h)]
 |[],_::_,_,_,h=>by simp at h
 |_::_,[],_,_,h=>by simp at h
def jS{β:Type}{F:β}{R:AK}{nx st r v j sz:Nat}{l:List (List D)}{M:List D}(u:Dp R r v=true)(Q:D5 R r []=some (sz,l))(O:l[j]?= some M):∀(t:Ty) (c:Nat) (d:List XC) (f:t.den->List XC->Option β),(∀y∈d,Bj R nx st y)->Ip r v j t c d f=some F ->
  ∃x g i,d=g++i/\f x i=some F/\Jj r j M c (g.map (cC R)) (Al t x)/\g.length=t.n/\(∀y∈g,cC R y≠.un)/\∀z:t.den,LY (g.map (cC R)) (Al t z)=(Al t z).map OH
 |.I k,c,y::d,f,o,h=>by
  simp only[Ip]at h;split at h
  .rename_i k' z m;split at h
   .rename_i W;simp only[JG,AA]at W;subst W;refine⟨z,[y],d,rfl,h,⟨.inl ⟨_,Mn m,rfl⟩,trivial⟩,rfl, ?_,λz'=>by simp only[A2,CB,Mn m];rfl⟩;intro J e;simp only[Db]at e;subst e;rw[Mn m];simp
   simp at h
  simp at h
 |.Y,c,y::d,f,o,h=>by
  simp only[Ip]at h;split at h
  .rename_i b;exact⟨b,[.y b],d,rfl,h,⟨.inl ⟨_,rfl,rfl⟩,trivial⟩,rfl,by intro J e;simp only[Db]at e;subst e;simp[cC],λz=>rfl⟩
  simp at h
 |.B,c,y::d,f,o,h=>by
  simp only[Ip]at h;split at h
  .rename_i b;exact⟨b,[.b b],d,rfl,h,⟨.inl ⟨_,rfl,rfl⟩,trivial⟩,rfl,by intro J e;simp only[Db]at e;subst e;simp[cC],λz=>rfl⟩
  simp at h
 |.S,c,y::d,f,o,h=>by
  simp only[Ip]at h;split at h
  .rename_i b;exact⟨b,[.s b],d,rfl,h,⟨.inl ⟨_,rfl,rfl⟩,trivial⟩,rfl,by intro J e;simp only[Db]at e;subst e;simp[cC],λz=>rfl⟩
  simp at h
 |.H t0,c,y::d,f,o,h=>by
  simp only[Ip]at h;split at h
  .rename_i r' v' p lo t' ws;split at h
   .rename_i X K;split at h
    .rename_i G;simp only[A6]at G;have b1:=B6 G.1;have b2:=B6 G.2.1;have b3:=B6 G.2.2;subst b1 b2 b3;obtain⟨E,h'⟩:=Es h;simp only[Hq,AA]at E;subst E;obtain⟨T,h1,rfl,C,V⟩:=Sj h';obtain⟨_,_,o3⟩:=o _ B5;obtain⟨l',w,Z,q3⟩:=o3 u;rw[show [(X,K)]=[]++[(X,K)] from rfl,Wg Q,O]at w;simp only[DF]at w;rw[A7]at Z;rw[AJ]at q3;have N:∃A,M[K]?= some (.sl t'.n A)/\A=l':=by
      split at w
      .rename_i s A he;simp only[Ac,A5]at w;obtain⟨rfl,rfl⟩:=w;exact⟨_,he,rfl⟩
      simp at w
     obtain⟨A,N,rfl⟩:=N;refine⟨some T,[_],d,rfl,h1,⟨.inr ⟨t'.n,ws.length,A,by simp only[cC,u],N,Z, ?_⟩,trivial⟩,rfl, ?_,λz=>by cases z<;>simp only[A2,CB,cC,u]<;>rfl⟩
     .simp only[Al];rw[q3,C]
     intro J e;simp only[Db]at e;subst e;simp[cC,u]
    simp at h
   simp at h
  simp at h
 |.P a b,c,d,f,o,h=>by
  simp only[Ip]at h;obtain⟨x,g,i,rfl,h,h2,C,V,h5⟩:=jS u Q O a c d _ o h;obtain⟨y,U,q,rfl,h,g2,g3,g4,g5⟩:=jS u Q O b _ i _ (λy e=>o y (Jh _ e)) h;refine⟨(x,y),g++U,q,by simp,h, ?_,by simp only[Cb,C,g3,Ty.n], ?_,λz=>by
   simp only[C2,Al];rw[sG (by rw[B3,C,Cv]),h5,g5]⟩
  .simp only[C2,Al];exact Jj.append h2 (by rw[B3,C];exact g2)
  intro z m;rcases C7.1 m with m|m
  .exact V z m
  exact g4 z m
 |.L _,_,d,_,_,h=>by cases d<;>simp[Ip]at h
 |.I _,_,[],_,_,h=>by simp[Ip]at h
 |.Y,_,[],_,_,h=>by simp[Ip]at h
 |.B,_,[],_,_,h=>by simp[Ip]at h
 |.S,_,[],_,_,h=>by simp[Ip]at h
 |.H _,_,[],_,_,h=>by simp[Ip]at h
end Go.Vs
namespace Go.Vs
variable [Glb]
def Xn:(t:Ty)->t.den
 |.I _=>(0:Int)
 |.Y=>(0:UInt8)
 |.B=>false
 |.S=>([]:List UInt8)
 |.L t=>([]:List t.den)
 |.H t=>(some []:Option (List t.den))
 |.P a b=>(Xn a,Xn b)
def zc:Ty->List C
 |.I k=>[.lf (.int k 0)]
 |.Y=>[.lf (.int .u8 0)]
 |.B=>[.lf (.bool false)]
 |.S=>[.lf (.string ⟨#[]⟩)]
 |.L t=>[.nl t.n]
 |.H t=>[.nl t.n]
 |.P a b=>zc a++zc b
def gf:C->C->Bool
 |.lf (.int k z),.lf (.int c d)=>decide (k=c)&&decide (z=d)
 |.lf (.bool a),.lf (.bool b)=>a==b
 |.lf (.string a),.lf (.string b)=>a.data.toList.isEmpty&&b.data.toList.isEmpty
 |.nl a,.nl b=>Nat.beq a b
 |_,_=>false
def Ql:List C->List C->Bool
 |[],[]=>true
 |a::c,b::d=>gf a b&&Ql c d
 |_,_=>false
inductive Hn where
 |no
 |el (t:Ty)
 |sb
 deriving Inhabited
def Q7(z:Int)(a:Nat):Bool:=decide (0<=z/\z*a<=140737488355328/\z<=9223372036854775807)
def N6:XC->Option Nat
 |.rw r=>some r
 |.rv r _ _=>some r
 |.rf r _ _ _ _ _=>some r
 |_=>none
def lH{β:Type}(X:XSt)(n:Nat)(p v:XV)(k:XV->XSt->Option β):Option β:=match p,IE v with
 |.a (.c (.pb r c)),some f=>match lk X.roots r with
  |some (_,.bx g)=>match Nat.beq f.length n&&Nat.ble (c+n) g.length with
   |true=>k .un (X.setR r (.bx (g.take c++(f.map (λy=>(X.stamp,y))++g.drop (c+n)))))
   |false=>none
  |_=>none
 |.a (.c (.pe r v [] i c t e)),some f=>match lk X.roots r with
  |some (s,.tr q m)=>if l:q=t then match Nat.beq s v&&Nat.beq f.length n&&Nat.ble (c+n) t.n,Fw X.roots f with
   |true,some d=>match Mc d&&!LI r d&&(d.isEmpty&&(f.all λy=>match y with|.nl _=>false|_=>true)||Nat.ble X.fix r) with
    |true=>Oy ((Nh t e).take c) (Oy (((Nh t e).drop (c+n)).take t.n) (FL X.roots t ((Jn r v [] i t e 0).take c++(f++(Jn r v [] i t e 0).drop (c+n))) λh b=>match b with
     |[]=>k .un ((X.delRs d).setR r (.tr t (BS (l ▸ m) i h)))
     |_=>none))
    |false=>none
   |true,none=>match Nat.beq c 0&&(Nat.beq n t.n&&(Ma t&&Nat.ble X.fix r)) with
    |true=>match gr f with
     |some j=>A3 (Wc i j) (Aa (idx (l ▸ m:List t.den) (Int.ofNat j)) λo=>Ip r v j t 0 f λh b=>match b with
      |[]=>k .un (X.setR r (.tr t (BS (BS (l ▸ m) i h) j (Lg t o))))
      |_=>none)
     |none=>none
    |false=>none
   |_,_=>none
   else none
  |_=>none
 |_,_=>none
def Zl(X:XSt)(x:XV)(h:Hn):Option ((t:Ty)×List t.den×Option Nat):=match x with
 |.a (.c (.nl _))=>match h with
  |.el t=>some ⟨t,[],none⟩
  |_=>none
 |.a (.c (.rw r))=>match lk X.roots r with
  |some (_,.tr t b)=>some ⟨t,b,some r⟩
  |_=>none
 |_=>none
def tq:XC->Option (Nat×Nat×Nat)
 |.rv r a n=>some (r,a,n)
 |_=>none
def FW:Option Nat->List Nat
 |none=>[]
 |some r=>[r]
def JV{β:Type}(X:XSt)(h:Hn)(j:W)(k:XV->XSt->Option β):Option β:=match j with
 |.alloc zero=>match zero.all LO with
  |true=>k (.a (.c (.pb X.next 0))) (X.newR (.bx (zero.map λc=>(X.stamp,Lh c))))
  |false=>none
 |.box x=>match IE (X.opd x) with
  |some g=>k (.a (.c (.pb X.next 0))) (X.newR (.bx (g.map λc=>(X.stamp,c))))
  |none=>none
 |.store n x v=>lH X n (X.opd x) (X.opd v) k
 |.mks e b zero l c=>match h,KY (X.opd l),KY (X.opd c) with
  |.el t,some z,some E=>match Ql zero (zc t)&&Nat.beq e t.n with
   |true=>A3 (Ak E z) (A3 (Q7 z b) (k (.a (.c (.rw X.next))) (X.newR (.tr t (GX (A9 z) (Xn t))))))
   |false=>none
  |_,_,_=>none
 |.lit e len zero i=>match zero.all LO with
  |true=>match S1 X ((AQ len zero).map Lh) (i.map λx=>(x.1*e,e,x.2)) with
   |some g=>match h with
    |.sb=>k (.sb X.next len) (X.newR (.bx (g.map λc=>(X.stamp,c))))
    |.el t=>match Fw X.roots g with
     |some p=>match Mc p&&Nat.beq e t.n with
      |true=>QK X.roots t len g λd=>k (.a (.c (.rw X.next))) ((X.delRs p).newR (.tr t d))
      |false=>none
     |none=>match Pm X.roots g with
      |some q=>match WR q&&Nat.beq e t.n with
       |true=>QK X.roots t len g λd=>T2 q X λB=>k (.a (.c (.rw B.next))) (B.newR (.tr t d))
       |false=>none
      |none=>none
    |.no=>none
   |none=>none
  |false=>none
 |.s2b x=>match X.opd x with
  |.a (.c (.s l))=>k (.a (.c (.rw X.next))) (X.newR (.tr .Y l))
  |_=>none
 |.app e b _ x y=>match Zl X (X.opd x) h,X.opd y with
  |some ⟨t,d,f⟩,.a (.c (.nl _))=>match Nat.beq e t.n&&(match X.opd x with|.a (.c (.nl n))=>Nat.beq n e|_=>true) with
   |true=>A3 (Bk d.length b) (k (.a (.c (.rw X.next))) ((X.delRs (FW f)).newR (.tr t d)))
   |false=>none
  |some ⟨t,d,f⟩,.a (.c c)=>match Nat.beq e t.n&&(match X.opd x with|.a (.c (.nl n))=>Nat.beq n e|_=>true) with
   |true=>match N6 c with
    |some C=>match LI C (FW f) with
     |true=>none
     |false=>NL X.roots c λD o=>Qb D t o λo=>A3 (Bk (d.length+o.length) b) (match t.flat with
      |true=>k (.a (.c (.rw X.next))) ((X.delRs (FW f)).newR (.tr t (Ax d o)))
      |false=>match tq c with
       |some (r,u,m)=>match lk X.roots r with
        |some (_,.tr A w)=>k (.a (.c (.rw X.next))) (((X.delRs (FW f)).setR r (.tr (hT A) (Iq A u m w))).newR (.tr t (Ax d o)))
        |_=>none
       |none=>match EB X.roots c with
        |some (some r)=>k (.a (.c (.rw X.next))) ((X.delRs (r::FW f)).newR (.tr t (Ax d o)))
        |_=>none)
    |none=>none
   |false=>none
  |_,_=>none
 |.aps _ x y=>match Zl X (X.opd x) (.el .Y),X.opd y with
  |some ⟨.Y,d,f⟩,.a (.c (.s l))=>match (match X.opd x with|.a (.c (.nl n))=>Nat.beq n 1|_=>true) with
   |true=>A3 (Bk (d.length+l.length) 1) (k (.a (.c (.rw X.next))) ((X.delRs (FW f)).newR (.tr .Y (Ax d l))))
   |false=>none
  |_,_=>none
 |.clr e zero x=>match X.opd x with
  |.a (.c (.nl _))=>k .un X
  |.a (.c (.rv r u n))=>match lk X.roots r with
   |some (_,.tr T d)=>match Nat.beq e T.n&&(Ql zero (zc T)&&Ma T) with
    |true=>A3 (Hq (u+n) d.length) (k .un (X.setR r (.tr T (Ax (BA u d) (GX n (SB T))))))
    |false=>none
   |_=>none
  |_=>none
 |_=>none
def Kp:XC->Bool
 |.lf _=>true
 |.i _ _=>true
 |.y _=>true
 |.b _=>true
 |.s _=>true
 |_=>false
def Wq(X:XSt)(j:W):Bool:=match j with
 |.store _ x v=>match X.opd x,IE (X.opd v) with
  |.a (.c (.pe _ _ _ _ _ _ _)),some b=>b.all Kp
  |_,_=>true
 |_=>true
def UV{β:Type}(X:XSt)(S:St)(j:W)(k:XV->XSt->Option β)(d:β):Prop:=
 ∃e b,k e b=some d/\XOk b/\Ext X b/\Dt b.roots b.next b.stamp e/\b.env=X.env /\
  ∃v c a,CZ v (cV b.roots e)/\SimX b ⟨Bz c S.env,a,b.next,S.fix⟩/\(Wq X j=true->c=[]/\∀r s x,lk b.roots r=some (s,x)->s<X.stamp->get a r=get S.roots r)/\∀K:KW,K v c a b.next->wr S K j
section
variable {β:Type} {X:XSt} {S:St} {out:β}
def Zbd{a b:C}(h:gf a b=true):a=b:=by
 unfold gf at h;split at h
 .simp only[A6,AA]at h;obtain⟨rfl,rfl⟩:=h;rfl
 .simp only[CJ]at h;rw[h]
 .rename_i a b;simp only[A6,Oj]at h;obtain⟨⟨a⟩⟩:=a;obtain⟨⟨b⟩⟩:=b;simp only at h;rw[h.1,h.2]
 .rw[B6 h]
 simp at h
def gg:∀{a b:List C},Ql a b=true->a=b
 |[],[],_=>rfl
 |a::c,b::d,h=>by
  simp only[Ql,A6]at h;rw[Zbd h.1,gg h.2]
 |[],_::_,h=>by simp[Ql]at h
 |_::_,[],h=>by simp[Ql]at h
def mG:∀t:Ty,(zc t).map Pw=Al t (Xn t)
 |.I _=>rfl
 |.Y=>rfl
 |.B=>rfl
 |.S=>rfl
 |.L t=>rfl
 |.H t=>rfl
 |.P a b=>by simp only[zc,C2,mG a,mG b,Al,Xn]
def mH:∀t:Ty,(zc t).all QH=true
 |.I _=>rfl
 |.Y=>rfl
 |.B=>rfl
 |.S=>rfl
 |.L t=>rfl
 |.H t=>rfl
 |.P a b=>by simp only[zc,dv,mH a,mH b,RQ]
def kJ{b:XSt}{r s:Nat}{t:Ty}{d:List t.den}(h:lk b.roots r=some (s,.tr t d)){n:Nat}(e:n=d.length):CZ (.a (.c (.rf r [] t.n 0 n))) (cV b.roots (.a (.c (.rw r)))):=by
 subst e;simp only[cV,cA,cC,h];exact Ba.refl _
def OT(X:XSt)(x:XR):lk (X.newR x).roots X.next=some (X.stamp,x):=by simp only[XSt.newR];rw[BO,Af rfl]
def jc{X:XSt}{b:List (Nat×XC)}{r:Nat}(h:r=X.next):CZ (.a (.c (.pb r 0))) (cV (X.newR (.bx b)).roots (.a (.c (.pb X.next 0)))):=by
 subst h;simp only[cV,cA,cC,OT];exact Ba.refl _
def qS(G:XOk X)(A:SimX X S){d:XSt}{b:List (Nat×Root)}(w:XOk d)(o:Ext X d)(z:SimX d ⟨S.env,b,S.next,S.fix⟩)(B:d.env=X.env)(e:d.next=X.next)(m:∀r s x,lk d.roots r=some (s,x)->s<X.stamp->get b r=get S.roots r){t:Ty}{g:List t.den}{k:XV->XSt->Option β}{j:W}(h:k (.a (.c (.rw d.next))) (d.newR (.tr t g))=some out)
  {n:Nat} (C:n=g.length) (E:∀K:KW,K (.a (.c (.rf S.next [] t.n 0 n))) [] ((S.next,.tr t.n (g.map (Al t)))::b) (S.next+1)->wr S K j):UV X S j k out:=by
 obtain⟨q,u,v⟩:=OU (x:=.tr t g) (y:=.tr t.n (g.map (Al t))) w z (λF h=>by simp at h) ⟨_,rfl,rfl,rfl⟩;have f:S.next=X.next:=A.next;refine⟨_,_,h,q,o.trans u, ?_,B,.a (.c (.rf S.next [] t.n 0 n)),[],(S.next,.tr t.n (g.map (Al t)))::b, ?_, ?_, ?_, ?_⟩
 .show d.next<d.next+1;exact DG _
 .rw[f,<-e];exact kJ (s:=d.stamp) (OT _ _) C
 .rw[Nq,f];have:(d.newR (.tr t g)).next=d.next+1:=rfl;rw[this,<-e];exact v
 .intro _;refine⟨rfl,λr s x i D=>?_⟩;simp only[XSt.newR]at i;rw[BO]at i;split at i
  .simp only[Ac,A5]at i;have:=o.stamp;omega
  rename_i l;simp only at l;simp only[get];rw[Ae (by rw[f,<-e];exact l)];exact m r s x i D
 intro K p;have:(d.newR (.tr t g)).next=S.next+1:=by show d.next+1=_;rw[e,f]
 rw[this]at p;exact E K p
def Qt(I:XOk X)(B:SimX X S){ids:List Nat}(J:∀r∈ids,r<X.next){t:Ty}{g:List t.den}{roots:List (Nat×Root)}(C:∀r,r ∉ ids->get roots r=get S.roots r){k:XV->XSt->Option β}{j:W}(h:k (.a (.c (.rw X.next))) ((X.delRs ids).newR (.tr t g))=some out)
  {n:Nat} (L:n=g.length) (M:∀K:KW,K (.a (.c (.rf S.next [] t.n 0 n))) [] ((S.next,.tr t.n (g.map (Al t)))::roots) (S.next+1)->wr S K j):UV X S j k out:=by
 obtain⟨a,b,c⟩:=Vp ids I B J;obtain⟨E,i,Q,T⟩:=Vo ids X;have D:SimX (X.delRs ids) ⟨S.env,roots,S.next,S.fix⟩:=by
  refine Tw (R:=S.roots) c ?_;intro r s x d N;by_cases m:r∈ids
  .obtain⟨V,u⟩:=(Kl ids X r).1 m;rw[d]at u;simp only[Ac,A5]at u;exact (N u.2).elim
  exact C r m
 obtain⟨F,G,H⟩:=OU (x:=.tr t g) (y:=.tr t.n (g.map (Al t))) a D (λP h=>by simp at h) ⟨_,rfl,rfl,rfl⟩;have f:S.next=X.next:=B.next;refine⟨_,_,h,F,b.trans G, ?_,E,.a (.c (.rf S.next [] t.n 0 n)),[],(S.next,.tr t.n (g.map (Al t)))::roots, ?_, ?_, ?_, ?_⟩
 .show X.next<(X.delRs ids).next+1;rw[i];exact DG _
 .rw[f];refine kJ (s:=(X.delRs ids).stamp) ?_ L;rw[<-i];exact OT _ _
 .rw[Nq,f];have:((X.delRs ids).newR (.tr t g)).next=(X.delRs ids).next+1:=rfl;rw[this,<-i];exact H
 .intro _;refine⟨rfl,λr s x d U=>?_⟩;simp only[XSt.newR]at d;rw[BO]at d;split at d
  .simp only[Ac,A5]at d;omega
  rename_i o;simp only at o;simp only[get];rw[Ae (by rw[f,<-i];exact o)];by_cases m:r∈ids
  .have z:∀(l:List Nat) (Y:XSt),r∈l->∀s x,lk (Y.delRs l).roots r=some (s,x)->Y.stamp<=s:=by
    intro l
    induction l with
    |nil=>intro Y h;simp at h
    |cons q l O=>
     intro Y h s x d;by_cases v:r∈l
     .have:=O (Y.setR q .gone) v s x d;have e:(Y.setR q .gone).stamp=Y.stamp+1:=rfl;omega
     have w:=(AX.1 h).resolve_right v;subst w;have p:lk ((Y.setR r .gone).delRs l).roots r=some (s,x):=d;rw[(Kl l (Y.setR r .gone) r).2 v]at p;simp only[XSt.setR]at p;rw[BO,Af rfl]at p;simp only[Ac,A5]at p;omega
   have:=z ids X m s x d;omega
  exact C r m
 intro K A;have:((X.delRs ids).newR (.tr t g)).next=S.next+1:=by show (X.delRs ids).next+1=_;rw[i,f]
 rw[this]at A;exact M K A
def fF(z:XOk X)(p:SimX X S){b:List XC}{i:List C}(H:Ai Ba i (b.map (cC X.roots)))(D:∀c∈b,Bj X.roots X.next X.stamp c){k:XV->XSt->Option β}{j:W}{g:XV}{v:V}(F:CZ v (cV (X.newR (.bx (b.map λc=>(X.stamp,c)))).roots g))(m:Dt (X.newR (.bx (b.map λc=>(X.stamp,c)))).roots (X.next+1) (X.stamp+1) g)(h:k g (X.newR (.bx (b.map λc=>(X.stamp,c))))=some out)
  (G:∀K:KW,K v [] ((S.next,.bx i)::S.roots) (S.next+1)->wr S K j):UV X S j k out:=by
 obtain⟨t,u,w⟩:=OU (x:=.bx (b.map λc=>(X.stamp,c))) (y:=.bx i) (E:=S.env) (R:=S.roots) (n:=S.next) (f:=S.fix) z p (λq h e B=>by
  simp only[XR.bx.injEq]at h;subst h;obtain⟨c,A,rfl⟩:=CC.1 B;exact⟨rfl,D c A⟩) ⟨_,rfl,by simp only[H5,GO];exact H⟩
 have a:S.next=X.next:=p.next;refine⟨g,_,h,t,u,m,rfl,v,[],(S.next,.bx i)::S.roots,F, ?_,λ_=>⟨rfl,λr s x d I=>?_⟩,λK o=>G K ?_⟩
 .rw[Nq,a];exact w
 .simp only[XSt.newR]at d;rw[BO]at d;split at d
  .simp only[Ac,A5]at d;omega
  rename_i l;simp only[get];rw[Ae (by rw[a];exact l)]
 rw[a];rw[a]at o;exact o
end
end Go.Vs
namespace Go.Vs
variable [Glb]
section
variable {β:Type} {X:XSt} {S:St} {out:β}
def RV(r:Nat)(a:List (Nat×Ao)):Prop:=∀k∈a,k.1=r/\k.2≠[]
def Zi2(b a:List (Nat×Ao))(x:C):BE (b++a) x=BE a (BE b x):=by
 induction b generalizing x with
 |nil=>rfl
 |cons k b c=>exact c _
def ii{r:Nat}{x:C}(m:∀q p s g n,x=.rf q p s g n->q≠r\/p=[])(d:∀q p i c,x=.pe q p i c->q≠r\/p=[]):∀{f:List (Nat×Ao)},RV r f->BE f x=x
 |[],_=>rfl
 |k::f,h=>by
  obtain⟨j,l⟩:=h k B5;have e:ER k.1 k.2 x=x:=by
   cases x with
   |rf q p s g n=>
    simp only[ER];rw[Ae];rintro ⟨a,b⟩;rcases m q p s g n rfl with h|h
    .exact h (a.trans j)
    subst h;exact l (by simpa using b)
   |pe q p i c=>
    simp only[ER];rw[Ae];rintro ⟨a,b⟩;rcases d q p i c rfl with h|h
    .exact h (a.trans j)
    subst h;exact l (by simpa using b)
   |_=>rfl
  show BE f (ER k.1 k.2 x)=x;rw[e];exact ii m d λk o=>h k (Bx _ o)
def kC(a b:C->C)(x:Root):Root.map b (Root.map a x)=Root.map (λc=>b (a c)) x:=by
 cases x<;>simp[Root.map]
def lG(hS : SimX X S){r i sz : Nat}(fx : Nat) : ∀ (I : List XC) (F : List D) (w : List Nat) (a : List (Nat × Root)) (B : List (List D)) (e : List D) (c : Nat) (O : List (Nat × Ao)),
    Ai (CD X.roots) I F → Fw X.roots I = some w → w.Nodup → r ∉ w → ((w = [] ∧ ∀ y ∈ I, ∃ v, cC X.roots y = .lf v) ∨ fx ≤ r) → get a r = some (.tr sz B) → B[i]?= some e → c + I.length ≤ e.length → RV r O →
    (∀ q ∈ w, get a q = (get S.roots q).map (Root.map (BE O))) →
    ∃ b m, Iz fx r [] i (I.map (cC X.roots)) a c O = some (b, O ++ m) ∧ RV r m ∧ get b r = some (.tr sz (B.set i (e.take c ++ (F ++ e.drop (c + F.length))))) ∧ (∀ q, q ≠ r → q ∉ w → get b q = (get a q).map (Root.map (BE m))) ∧ ((∀ y ∈ I, ∃ v, cC X.roots y = .lf v) → m = [])
  |[], [], w, a, B, e, c, O, _, H, _, _, _, hg, he, T, hk, _ => by
    refine ⟨a, [], by simp[Iz], (λk hk => by simp at hk), ?_, (λq _ _ => by rw[Li]), λ_ => rfl⟩;rw[hg];simp only[A0, Ay, AL, Jg];rw[show B.set i e = B from by
      apply MA;intro j;rw[Fo];split
      · rename_i h; subst h
        split
        · exact he.symm
        rename_i h; rw[KF (by omega)]
      · rfl]
  |y :: I, d :: F, w, a, B, e, c, O, h, H, hn, N, a3, hg, he, T, hk, L => by
    simp only[Aq] at T;have a5 : BE O (cC X.roots y) = cC X.roots y := by
      have : ∃ o, EB X.roots y = some o := by
        simp only[Fw] at H;split at H <;> first | exact ⟨_, by assumption⟩ | simp at H
      obtain ⟨o, G⟩ := this;refine ii ?_ ?_ hk
      · intro q p s lo n f
        right;cases y <;> simp only[EB, reduceCtorEq] at G <;> simp only[cC] at f <;> (try simp at f)
        · split at f <;> simp at f <;> first | exact f.2.1 | exact f.2.1.symm
        split at f <;> simp at f <;> first | exact f.2.1 | exact f.2.1.symm
      intro q p i' c' f;cases y <;> simp only[EB, reduceCtorEq] at G <;> simp only[cC] at f <;> (try simp at f)
      · split at f <;> simp at f
      split at f <;> simp at f
    have a7 : i < B.length := (CY.1 he).1;have U : ∀ d : D, DQ B [] i c d = B.set i (e.set c d) := λd => by simp[DQ, EL, Gk, he]
    have R : ∀ d : D, (B.set i (e.set c d))[i]?= some (e.set c d) := λd => L6 a7;have Q : ∀ (d : D) (F : List D), (B.set i (e.set c d)).set i ((e.set c d).take (c + 1) ++ (F ++ (e.set c d).drop (c + 1 + F.length))) = B.set i (e.take c ++ (d :: F ++ e.drop (c + (d :: F).length))) := by
      intro d F;rw[MB];congr 1;have hc : c < e.length := by omega
      rw[UB, L6 (by simpa using hc), UJ (AE c)];simp only[Yv, EG, A1, A0, Aq];rw[dw (by omega), show c + 1 + F.length = c + (F.length + 1) by omega]
    cases A : cC X.roots y with
    |lf u=>
      have hd : d = .lf u := by
        rcases h.1 with ⟨v, J, rfl⟩ | ⟨n, rfl, _⟩ | ⟨t, ws, r', p, lo, l, J, _⟩
        · rw[A] at J; simp only[C.lf.injEq] at J; rw[J]
        · simp[cC] at A
        rw[A] at J; simp at J
      subst hd;have Z : Fw X.roots I = some w := by
        simp only[Fw] at H;split at H
        · rename_i q l J P
          exfalso;cases y <;> simp only[EB, reduceCtorEq, Ac] at J <;> simp only[cC] at A
          · split at A <;> simp at A
          split at A <;> simp at A
        · rename_i l J P; rw[P]; exact H
        simp at H
      obtain ⟨b, m, g1, g2, g3, g4, g5⟩ := lG hS fx I F w (put a r (.tr sz (B.set i (e.set c (.lf u))))) _ _ (c + 1) O h.2 Z hn N (a3.imp (λh => ⟨h.1, λy hy => h.2 y (Bx _ hy)⟩) id) (by rw[Bn, Af rfl]) (R _) (by simp; omega) hk
        (λq f => by rw[Bn, Ae (λe => N (by rw[e]; exact f))]; exact L q f)
      refine ⟨b, m, ?_, g2, by rw[g3, Q], λq f M => ?_, λK => g5 λy hy => K y (Bx _ hy)⟩
      · simp only[A2, Iz]
        rw[a5, A];simp only[hg, U];exact g1
      rw[g4 q f M, Bn, Ae (λe => f e.symm)]
    |_=>
      have a0 : ∀ u, cC X.roots y ≠ .lf u := λu h => by rw[A] at h; simp at h
      have a2 : fx ≤ r := by
        rcases a3 with ⟨_, P⟩ | P
        · obtain ⟨v, hv⟩ := P y B5
          exact (a0 v hv).elim
        exact P
      have hh : Nf sz B [] i (c + I.length) = true := by
        simp only[Nf, AH, DF, he, AA]; omega
      -- the cell is taken
      have V : ∀ (o : Option Nat) (E : List Nat), EB X.roots y = some o → Fw X.roots I = some E → w = FW o ++ E →
          ∃ b m, Iz fx r [] i ((y :: I).map (cC X.roots)) a c O = some (b, O ++ m) ∧ RV r m ∧ get b r = some (.tr sz (B.set i (e.take c ++ (d :: F ++ e.drop (c + (d :: F).length))))) ∧ (∀ q, q ≠ r → q ∉ w → get b q = (get a q).map (Root.map (BE m))) ∧ ((∀ z ∈ y :: I, ∃ v, cC X.roots z = .lf v) → m = []) := by
        intro o E G a6 Y;subst Y;have a8 : E.Nodup := (ME.1 hn).2.1;have a9 : o ≠ some r := λe => N (by subst e; simp[FW]);have ht : DZ a (cC X.roots y) = some (d, Fh a o) := by
          -- trees are not changed by what is killed
          cases o with
          |none => exact Ta hS h.1 G (λq f => by simp at f)
          |some q=>
            have f := L q (by simp[FW]);have : ∃ t xs s, lk X.roots q = some (s, .tr t xs) := by
              cases y <;> simp only[EB, reduceCtorEq, Ac] at G
              · split at G
                · rename_i T; simp only[Ac] at G; subst G; exact ⟨_, _, _, T⟩
                simp at G
              split at G
              · rename_i T
                split at G
                · simp only[Ac] at G; subst G; exact ⟨_, _, _, T⟩
                simp at G
              simp at G
            obtain ⟨t, xs, s, T⟩ := this;obtain ⟨z, z1, z2⟩ := hS.roots q s _ T _ rfl;refine Ta hS h.1 G (λq' a4 => ?_);simp only[Ac] at a4;subst a4;rw[f, z1];cases z with
            |tr _ _ => rfl
            |_ => exact z2.elim
        have W : ∀ q, o ≠ some q → get (Fh a o) q = get a q := by
          intro q f;cases o with
          |none => rfl
          |some z => simp only[Fh]; rw[Ii, Ae (λe => f (by rw[e]))]
        obtain ⟨b, m, g1, g2, g3, g4, g5⟩ := lG hS fx I F E (put (Nr r ([] ++ [(i, c)]) (Fh a o)) r (.tr sz (B.set i (e.set c d)))) _ _ (c + 1) (O ++ [(r, [] ++ [(i, c)])]) h.2 a6 a8 (λhm => N (Jh _ hm)) (.inr a2) (by rw[Bn, Af rfl]) (R d) (by simp; omega)
          (by intro k g; rcases C7.1 g with g | g
              · exact hk k g
              · simp only[Db] at g; subst g; exact ⟨rfl, by simp⟩)
          (fun q f => by
            have b0 : r ≠ q := λe => N (by rw[e]; exact Jh _ f);have a1 : o ≠ some q := λe => by
              subst e;simp only[FW, A1, A0, E4] at hn;exact hn.1 f
            rw[Bn, Ae b0, S8, W q a1, L q (Jh _ f)];cases get S.roots q with
            |none => rfl
            |some z=>
              simp only[Dg, kC];congr 2;funext x;rw[Zi2]; rfl)
        refine ⟨b, [(r, [] ++ [(i, c)])] ++ m, ?_, ?_, by rw[g3, Q], λq f M => ?_, λK => by
            obtain ⟨v, hv⟩ := K y B5;exact (a0 v hv).elim⟩
        · simp only[A2, Iz]
          rw[a5];have b1 : get (Fh a o) r = some (.tr sz B) := by rw[W r a9, hg]
          split
          · rename_i u hu; exact (a0 u hu).elim
          simp only[ht, b1, B3, a2, hh, and_self, BF, U];rw[g1, EG]
        · intro k g
          rcases C7.1 g with g | g
          · simp only[Db] at g; subst g; exact ⟨rfl, by simp⟩
          exact g2 k g
        rw[C7, not_or] at M;have a1 : o ≠ some q := λe => M.1 (by subst e; simp[FW]);rw[g4 q f M.2, Bn, Ae (λe => f e.symm), S8, W q a1];cases get a q with
        |none => rfl
        |some z=>
          simp only[Dg, kC];congr 2
      simp only[Fw] at H;split at H
      · rename_i q l J P
        simp only[Ac] at H; subst H;exact V (some q) l J P rfl
      · rename_i l J P
        simp only[Ac] at H; subst H;exact V none l J P rfl
      simp at H
  |[], _ :: _, _, _, _, _, _, _, h, _, _, _, _, _, _, _, _, _ => h.elim
  |_ :: _, [], _, _, _, _, _, _, h, _, _, _, _, _, _, _, _, _ => h.elim
def UO(r i:Nat)(a:List (Nat×Ao)):Prop:=∀k∈a,∃c,k=(r,[(i,c)])
def UO.in_{r i:Nat}{a:List (Nat×Ao)}(h:UO r i a):RV r a:=λk b=>by
 obtain⟨c,rfl⟩:=h k b;exact⟨rfl,by simp⟩
def rP{r i j c s d n:Nat}(a:i≠j):∀{b:List (Nat×Ao)},UO r i b->BE b (.rf r [(j,c)] s d n)=.rf r [(j,c)] s d n
 |[],_=>rfl
 |k::b,h=>by
  obtain⟨f,e⟩:=h k B5;subst e;have:ER r [(i,f)] (.rf r [(j,c)] s d n)=.rf r [(j,c)] s d n:=by
   simp only[ER];rw[Ae];rintro ⟨_,h⟩;rw[Yh]at h;exact a (by simpa using DU Prod.fst h.1)
  show BE b (ER r [(i,f)] _)=_;rw[this];exact rP a λk g=>h k (Bx _ g)
def ut{α:Type}{l:List α}{i:Nat}{x:α}(h:l[i]?= some x):l.set i x=l:=by
 apply MA;intro j;rw[Fo];split
 .rename_i e;subst e;split
  .exact h.symm
  rename_i a;rw[KF (by omega)]
 rfl
def Jj.set{r j:Nat}{d:List D}{a:Nat}{z:D}:∀{c:Nat}{e:List C}{b:List D},a<c->Jj r j d c e b->Jj r j (d.set a z) c e b
 |_,[],[],_,_=>trivial
 |c,_::_,_::_,k,h=>by
  refine⟨?_,Jj.set (by omega) h.2⟩;rcases h.1 with h|⟨s,n,l,f,g,i⟩
  .exact .inl h
  exact .inr ⟨s,n,l,f,by rw[MJ (by omega)];exact g,i⟩
 |_,[],_::_,_,h=>h.elim
 |_,_::_,[],_,h=>h.elim
def lE{r i j J : Nat}(t : i ≠ j){Z : Nat}(G : Z ≤ r) : ∀ (E : List C) (v : List D) (c : Nat) (a : List (Nat × Root)) (o : List (List D)) (p g : List D) (I : List (Nat × Ao)),
    Jj r j g c E v → get a r = some (.tr J o) → o[i]?= some p → o[j]?= some g → c + E.length ≤ p.length → c + E.length ≤ g.length → UO r i I →
    ∃ b m, Iz Z r [] i E a c I = some (b, I ++ m) ∧ UO r i m ∧ get b r = some (.tr J ((o.set i (p.take c ++ (v ++ p.drop (c + v.length)))).set j (g.take c ++ LY E (g.drop c)))) ∧ ∀ q, q ≠ r → get b q = (get a q).map (Root.map (BE m))
  |[], [], c, a, o, p, g, I, _, O, K, L, _, _, _ => by
    refine ⟨a, [], by simp[Iz], (λk Q => by simp at Q), ?_, (λq _ => by rw[Li])⟩;rw[O];have e1 : LY [] (g.drop c) = g.drop c := by cases g.drop c <;> rfl
    simp only[A0, Ay, AL, Jg, e1];rw[ut K, ut L]
  |y :: E, d :: v, c, a, o, p, g, I, h, O, K, L, hl, Y, Q => by
    simp only[Aq] at hl Y;have F : i < o.length := (CY.1 K).1;have P : j < o.length := (CY.1 L).1;have B : c < g.length := by omega
    have W : c < p.length := by omega
    have hA : ∀ (z : D) (v : List D), (p.set c z).take (c + 1) ++ (v ++ (p.set c z).drop (c + 1 + v.length)) = p.take c ++ (z :: v ++ p.drop (c + (z :: v).length)) := by
      intro z v;rw[UB, L6 W, UJ (AE c)];simp only[Yv, EG, A1, A0, Aq];rw[dw (by omega), show c + 1 + v.length = c + (v.length + 1) by omega]
    obtain ⟨h1, h2⟩ := h;rcases h1 with ⟨u, rfl, rfl⟩ | ⟨s, n, l, rfl, hc, hn, rfl⟩
    · have w : DQ o [] i c (.lf u) = o.set i (p.set c (.lf u)) := by simp[DQ, EL, Gk, K]
      obtain ⟨b, m, R, T, U, V⟩ := lE t G E v (c + 1) (put a r (.tr J (o.set i (p.set c (.lf u))))) _ (p.set c (.lf u)) g I h2 (by rw[Bn, Af rfl]) (L6 F) (by rw[MJ t]; exact L) (by simp; omega) (by omega) Q;refine ⟨b, m, ?_, T, ?_, λq M => ?_⟩
      · simp only[Iz]
        rw[rO];simp only[O, w];exact R
      · rw[U, hA, MB]
        congr 3;have e : g.drop c = g[c] :: g.drop (c + 1) := H1 B;rw[e];simp only[LY];rw[UB, BW B];simp only[Yv, EG, A1, A0]
      rw[V q M, Bn, Ae (λe => M e.symm)]
    have N : Qg o [(j, c)] = o.set j (g.set c .hole) := by
      rw[show Qg o [(j, c)] = DQ o [] j c .hole from fi o [] j c];simp[DQ, EL, Gk, L]
    have H : AH J o [(j, c)] = some (s, l) := by simp[AH, L, hc]
    have w : DQ (o.set j (g.set c .hole)) [] i c (.sl s (l.take n)) = (o.set j (g.set c .hole)).set i (p.set c (.sl s (l.take n))) := by
      simp[DQ, EL, Gk, MJ (Ne.symm t), K]
    have hh : Nf J (o.set j (g.set c .hole)) [] i (c + E.length) = true := by
      simp only[Nf, AH, DF, MJ (Ne.symm t), K, AA]; omega
    obtain ⟨b, m, R, T, U, V⟩ := lE t G E v (c + 1) (put (Nr r ([] ++ [(i, c)]) (put a r (.tr J (o.set j (g.set c .hole))))) r (.tr J ((o.set j (g.set c .hole)).set i (p.set c (.sl s (l.take n)))))) _ (p.set c (.sl s (l.take n))) (g.set c .hole) (I ++ [(r, [] ++ [(i, c)])])
      (Jj.set (DG c) h2) (by rw[Bn, Af rfl]) (L6 (by simpa using F)) (by rw[MJ t, L6 P]) (by simp; omega) (by simp; omega)
      (by intro k f; rcases C7.1 f with f | f
          · exact Q k f
          · simp only[Db] at f; subst f; exact ⟨c, rfl⟩)
    refine ⟨b, [(r, [] ++ [(i, c)])] ++ m, ?_, ?_, ?_, λq M => ?_⟩
    · simp only[Iz]
      rw[rP t Q];simp only[DZ, O, H];rw[Af ⟨trivial, hn⟩];simp only[BV, O, N, Bn, BF, G, hh, and_self, w];rw[R, EG]
    · intro k f
      rcases C7.1 f with f | f
      · simp only[Db] at f; subst f; exact ⟨c, rfl⟩
      exact T k f
    · rw[U, hA, MB]
      congr 2;have ec : ∀ x A : List D, (o.set j x).set i A = (o.set i A).set j x := λx A => List.set_comm _ _ (Ne.symm t);rw[ec, MB];congr 1;have e : g.drop c = g[c] :: g.drop (c + 1) := H1 B;rw[e];simp only[LY];rw[UB, L6 B, UJ (AE c), dw (by omega)];simp only[Yv, EG, A1, A0]
    rw[V q M, Bn, Ae (λe => M e.symm), S8, Bn, Ae (λe => M e.symm)];cases get a q with
    |none => rfl
    |some z=>
      simp only[Dg, kC];congr 2
  |[], _ :: _, _, _, _, _, _, _, h, _, _, _, _, _, _ => h.elim
  |_ :: _, [], _, _, _, _, _, _, h, _, _, _, _, _, _ => h.elim
end
end Go.Vs
namespace Go.Vs
variable [Glb]
section
variable {β:Type} {X:XSt} {S:St} {out:β}
def eg{α β:Type}{R:α->β->Prop}:∀{as c:List α}{d:List β},Ai R (as++c) d->Ai R as (d.take as.length)/\Ai R c (d.drop as.length)
 |[],c,d,h=>⟨by simp[Ai],by simpa using h⟩
 |a::as,c,b::d,h=>by
  obtain⟨e,f⟩:=eg (as:=as) h.2;exact⟨⟨h.1,e⟩,f⟩
 |_::_,_,[],h=>h.elim
def oA{R:AK}{c:XC}{d k:D}(h:CD R c d)(j:CD R c k):d=k:=by
 rcases h with ⟨v,b,rfl⟩|⟨n,rfl,rfl⟩|⟨t,I,r,p,H,l,b,B,F,E,rfl,G⟩
 .rcases j with ⟨y,a,rfl⟩|⟨s,rfl,rfl⟩|⟨x,g,w,u,f,q,a,e,m,i,rfl,o⟩
  .rw[b]at a;simp only[C.lf.injEq]at a;rw[a]
  .simp[cC]at b
  rw[b]at a;simp at a
 .rcases j with ⟨y,a,rfl⟩|⟨s,a,rfl⟩|⟨x,g,w,u,f,q,a,e,m,i,rfl,o⟩
  .simp[cC]at a
  .simp only[XC.nl.injEq]at a;rw[a]
  simp[cC]at a
 rcases j with ⟨y,a,rfl⟩|⟨s,rfl,rfl⟩|⟨x,g,w,u,f,q,a,e,m,i,rfl,o⟩
 .rw[b]at a;simp at a
 .simp[cC]at b
 rw[b]at a;simp only[C.rf.injEq]at a;obtain⟨rfl,rfl,z,rfl,A⟩:=a;rw[B]at e;simp only[Ac,A5]at e;obtain⟨_,rfl⟩:=e;rw[<-E,<-i,z,A]
def fN{R:AK}:∀{b:List XC}{e a:List D},Ai (CD R) b e->Ai (CD R) b a->e=a
 |[],[],[],_,_=>rfl
 |c::b,d::e,g::a,h,f=>by rw[oA h.1 f.1,fN h.2 f.2]
 |[],_::_,_,h,_=>h.elim
 |[],_,_::_,_,h=>h.elim
 |_::_,[],_,h,_=>h.elim
 |_::_,_,[],_,h=>h.elim
def Z0{R:AK}{r v:Nat}{p:Ao}{i C:Nat}{l:List (List D)}{e:List D}(u:Dp R r v=true)(s:D5 R r p=some (C,l))(q:l[i]?= some e):∀(t:Ty) (x:t.den) (c j:Nat) (y:XC) (d:D),((IK t x)[j]?).getD true=true->(Dj r v p i t x c)[j]?= some y->(Al t x)[j]?= some d->(∀(j:Nat) (d:D),(Al t x)[j]?= some d->e[c+j]?= some d)->CD R y d
 |.I _,_,_,0,_,_,_,f,hd,_=>by
  simp only[Dj,Al,AD,Ac]at f hd;subst f hd;exact .inl ⟨_,rfl,rfl⟩
 |.Y,_,_,0,_,_,_,f,hd,_=>by
  simp only[Dj,Al,AD,Ac]at f hd;subst f hd;exact .inl ⟨_,rfl,rfl⟩
 |.B,_,_,0,_,_,_,f,hd,_=>by
  simp only[Dj,Al,AD,Ac]at f hd;subst f hd;exact .inl ⟨_,rfl,rfl⟩
 |.S,_,_,0,_,_,_,f,hd,_=>by
  simp only[Dj,Al,AD,Ac]at f hd;subst f hd;exact .inl ⟨_,rfl,rfl⟩
 |.L t,o,c,0,_,_,_,f,hd,m=>by
  simp only[Dj,Al,AD,Ac]at f hd;subst f hd;have g:=Wg s i c;simp only[q,DF]at g;rw[show e[c]?= some (.sl t.n (o.map (Al t))) from m 0 _ rfl]at g;exact .inr (.inr ⟨t,o,r,p++[(i,c)],0,_,by simp[cC,u],g,by simp,by rw[AJ,F3 (by simp)],rfl,.inl rfl⟩)
 |.H t,none,c,0,_,_,h,_,_,_=>by simp[IK,Ik]at h
 |.H t,some o,c,0,_,_,_,f,hd,m=>by
  simp only[Dj,Al,AD,Ac]at f hd;subst f hd;have g:=Wg s i c;simp only[q,DF]at g;rw[show e[c]?= some (.sl t.n (o.map (Al t))) from m 0 _ rfl]at g;exact .inr (.inr ⟨t,o,r,p++[(i,c)],0,_,by simp[cC,u],g,by simp,by rw[AJ,F3 (by simp)],rfl,.inl rfl⟩)
 |.I _,_,_,_+1,_,_,_,f,_,_=>by simp[Dj]at f
 |.Y,_,_,_+1,_,_,_,f,_,_=>by simp[Dj]at f
 |.B,_,_,_+1,_,_,_,f,_,_=>by simp[Dj]at f
 |.S,_,_,_+1,_,_,_,f,_,_=>by simp[Dj]at f
 |.L _,_,_,_+1,_,_,_,f,_,_=>by simp[Dj]at f
 |.H _,_,_,_+1,_,_,_,f,_,_=>by simp[Dj]at f
 |.P a b,x,c,j,y,d,h,f,hd,m=>by
  simp only[Dj,Al,IK]at h f hd;by_cases A:j<a.n
  .rw[E3 (by rw[OI];exact A)]at h;rw[E3 (by rw[Kg];exact A)]at f;rw[E3 (by rw[Cv];exact A)]at hd;refine Z0 u s q a x.1 c j y d h f hd λk z w=>m k z ?_;simp only[Al];rw[E3 (CY.1 w).1];exact w
  rw[Dh (by rw[OI];omega),OI]at h;rw[Dh (by rw[Kg];omega),Kg]at f;rw[Dh (by rw[Cv];omega),Cv]at hd;refine Z0 u s q b x.2 _ _ y d h f hd λk z w=>?_;rw[show c+a.n+k=c+(a.n+k) by omega];refine m _ z ?_;simp only[Al];rw[Dh (by rw[Cv];omega),Cv,dl];exact w
def ef{α β:Type}{R:α->β->Prop}:∀{d:List α}{e:List β},d.length=e.length->(∀(j:Nat) (a:α) (b:β),d[j]?= some a->e[j]?= some b->R a b)->Ai R d e
 |[],[],_,_=>trivial
 |a::d,b::e,c,h=>⟨h 0 a b rfl rfl,ef (by simpa using c) λj a b f g=>h (j+1) a b (by simpa using f) (by simpa using g)⟩
 |[],_::_,c,_=>by simp at c
 |_::_,[],c,_=>by simp at c
def rQ{r:Nat}{Y:XSt}{e:XC}{z:Nat}{m:List (Nat×Ao)}{t:Ty}{h:List t.den}(w:RV r m){X:XSt}(b:cC (Y.setR r (.tr t h)).roots e=cC X.roots e)(v:Bj Y.roots z Y.stamp e):cC (Y.setR r (.tr t h)).roots e=.un\/cC (Y.setR r (.tr t h)).roots e=BE m (cC X.roots e):=by
 have i:∀d,d<Y.stamp->Dp (Y.setR r (.tr t h)).roots r d=false:=by
  intro d x;simp only[Dp,XSt.setR,BO,BF];cases k:Nat.beq Y.stamp d with
  |false=>rfl
  |true=>have:=B6 k;omega
 by_cases g:cC X.roots e=.un
 .left;rw[b,g]
 right;rw[b];symm;refine ii ?_ ?_ w
 .intro q p s E F a;cases e with
  |rw c=>simp only[cC]at a;split at a<;>simp at a<;>exact .inr (by first|exact a.2.1|exact a.2.1.symm)
  |rv c _ _=>simp only[cC]at a;split at a<;>simp at a<;>exact .inr (by first|exact a.2.1|exact a.2.1.symm)
  |rf c d n l o u=>
   left;intro f;simp only[cC]at a;split at a
   .simp only[C.rf.injEq]at a;have:c=r:=a.1.trans f;subst this;have:cC (Y.setR c (.tr t h)).roots (.rf c d n l o u)=.un:=by simp only[cC,i d v.2.1]
    rw[b]at this;exact g this
   simp at a
  |pe _ _ _ _ _ _ _=>simp only[cC]at a;split at a<;>simp at a
  |pb _ _=>simp only[cC]at a;split at a<;>simp at a
  |_=>simp[cC]at a
 intro q p D B a;cases e with
 |pe c d n y j o A=>
  left;intro f;simp only[cC]at a;split at a
  .simp only[C.pe.injEq]at a;have:c=r:=a.1.trans f;subst this;have:cC (Y.setR c (.tr t h)).roots (.pe c d n y j o A)=.un:=by simp only[cC,i d v.2.1]
   rw[b]at this;exact g this
  simp at a
 |rw c=>simp only[cC]at a;split at a<;>simp at a
 |rv c _ _=>simp only[cC]at a;split at a<;>simp at a
 |rf _ _ _ _ _ _=>simp only[cC]at a;split at a<;>simp at a
 |pb _ _=>simp only[cC]at a;split at a<;>simp at a
 |_=>simp[cC]at a
def Z2{R:AK}{f g:Nat}{x:XV}(e:Dt R f g x){d:List XC}(b:IE x=some d):∀c∈d,Bj R f g c:=by
 cases x with
 |a x=>cases x with
  |c x=>simp only[IE,Ac]at b;subst b;intro c b;simp only[Db]at b;subst b;exact e
  |ag h=>simp only[IE,Ac]at b;subst b;exact e
 |_=>simp[IE]at b
def rc{R:AK}:∀{ys:List XC},(∀y∈ys,Kp y=true)->Fw R ys=some []
 |[],_=>rfl
 |y::ys,h=>by
  have a:=h y B5;have b:=rc (R:=R) (ys:=ys) λy c=>h y (Bx _ c);simp only[Fw,b];cases y<;>simp[Kp]at a<;>rfl
def rR{R:AK}:∀{a:List XC}{b:List C},(∀c∈a,cC R c≠.un)->Ai Ba b (a.map (cC R))->b=a.map (cC R)
 |[],[],_,_=>rfl
 |c::a,y::b,h,d=>by
  simp only[A2];rw[<-rR (λc e=>h c (Bx _ e)) d.2,d.1.eq (h c B5)]
 |[],_::_,_,h=>h.elim
 |_::_,[],_,h=>h.elim
def Znz(Q:XOk X)(O:SimX X S){n:Nat}{x v:Opd}{k:XV->XSt->Option β}(h:lH X n (X.opd x) (X.opd v) k=some out):UV X S (.store n x v) k out:=by
 have a6:=Gy Q x;have b6:=Gy Q v;have b5:S.next=X.next:=O.next;unfold lH at h;split at h
 .-- a variable
  rename_i r c D hp M;rw[hp]at a6;obtain⟨zs,v1,v2,_⟩:=Vh (HJ O v) M;split at h
  .rename_i s J H;split at h
   .rename_i N;simp only[A6]at N;have a3:=B6 N.1;have T:=AS N.2;obtain⟨bs,g1,g2⟩:=Ot O H;have lz:=v2.length;have lb:=g2.length;simp only[B3]at lz lb;have w:=Z2 b6 M;obtain⟨a,b⟩:=LA Q (x:=.bx (J.take c++(D.map (λy=>(X.stamp,y))++J.drop (c+n)))) (AE _) a6 (by
     intro d7 e j en Z;simp only[XR.bx.injEq]at e;subst e;have d3:(J.take c).length=c:=by simp;omega
     by_cases V:j<c
     .rw[E3 (by omega),EM,Af V]at Z;exact⟨.inr ⟨s,J,H,Z⟩,(Q.box r s J H en (CP Z)).2⟩
     .rw[Dh (by omega),d3]at Z;by_cases h2:j-c<D.length
      .rw[E3 (by simpa using h2),CQ,BP]at Z;obtain⟨y,p,rfl⟩:=Z;exact⟨.inl rfl,w y (CP p)⟩
      .rw[Dh (by simp;omega),F2]at Z;simp only[B3]at Z;rw[show c+n+(j-c-D.length)=j by omega]at Z;exact⟨.inr ⟨s,J,H,Z⟩,(Q.box r s J H en (CP Z)).2⟩)
    have U:∀F,Bj X.roots X.next X.stamp F->cC ((r,X.stamp,.bx (J.take c++(D.map (λy=>(X.stamp,y))++J.drop (c+n))))::X.roots) F=.un\/cC ((r,X.stamp,.bx (J.take c++(D.map (λy=>(X.stamp,y))++J.drop (c+n))))::X.roots) F=BE [] (cC X.roots F):=λF hc=>KL (.inr (.inr (.inl ⟨_,_,_,rfl,H⟩))) hc;have P:=NB (X':=X.setR r (.bx (J.take c++(D.map (λy=>(X.stamp,y))++J.drop (c+n))))) (ks:=[]) (roots:=put S.roots r (.bx (bs.take c++(zs++bs.drop (c+n))))) Q O rfl rfl U (by
     intro q s' z A;simp only[XSt.setR]at A;rw[BO]at A;split at A
     .rename_i e;simp only at e;subst e;simp only[Ac,A5]at A;obtain⟨_,rfl⟩:=A;right;intro y p;simp only[D1,Ac]at p;subst p;refine⟨_,by rw[Bn,Af rfl], ?_⟩;have w1:Ai Ba bs ((J.map (·.2)).map (cC X.roots)):=by rw[GO];exact g2
      have w2:Ai Ba (bs.take c++(zs++bs.drop (c+n))) (((J.map (·.2)).take c++(D++(J.map (·.2)).drop (c+n))).map (cC X.roots)):=by
       simp only[C2,Fp,F4];exact Mt (JU w1) (Mt v2 (J4 w1))
      have w3:=TB (ks:=[]) U (by
       intro F E;simp only[C7]at E;rcases E with E|E|E
       .obtain⟨e,he,rfl⟩:=CC.1 (G4 E);exact (Q.box r s J H e he).2
       .exact w F E
       .obtain⟨e,he,rfl⟩:=CC.1 (Gm E);exact (Q.box r s J H e he).2) w2
      have e3:(bs.take c++(zs++bs.drop (c+n))).map (BE [])=bs.take c++(zs++bs.drop (c+n)):=by
       have:BE []=λc=>c:=by funext c;rfl
       rw[this];simp
      rw[e3]at w3;simp only[H5,C2,GO,Fp,F4]at w3 ⊢;exact w3
     .rename_i e;left;exact⟨A,by rw[Li,Bn,Ae e]⟩)
    have a1:S.opd x=.a (.c (.pb r c)):=by rw[BT O hp (by simp[cC,H])];simp only[cC,H]
    refine⟨_,_,h,a,b,trivial,rfl,.un,[],_,trivial,P,λ_=>⟨rfl,λq s' z A hs=>?_⟩,λK hK=>?_⟩
    .simp only[XSt.setR]at A;rw[BO]at A;split at A
     .simp only[Ac,A5]at A;omega
     rename_i e;rw[Bn,Ae e]
    simp only[wr,a1];refine⟨zs,v1,by omega,bs,g1,by omega, ?_⟩;rw[b5];exact hK
   simp at h
  simp at h
 .-- an element
  rename_i r v' i c t e D hp M;rw[hp]at a6;obtain⟨p1,p2,p3⟩:=a6;split at h
  .rename_i C f I H;split at h
   .rename_i ht;subst ht;split at h
    .rename_i o N G;simp only[A6]at N;have a3:=B6 N.1.1;have T:=B6 N.1.2;have d8:=AS N.2;subst a3;split at h
     .rename_i hc;simp only[A6,CE,CV,Oj,DE]at hc;obtain⟨⟨b4,a0⟩,W⟩:=hc;have b4:=OX b4;have a0:r ∉ o:=λhm=>by rw[V8.2 hm]at a0;simp at a0
      have hv:Dp X.roots r C=true:=Lu H;have B:D5 X.roots r []=some (f.n,I.map (Al f)):=by simp only[D5,H];rfl
      obtain⟨l,q1,q2⟩:=p3 hv;rw[B]at q1;simp only[Ac,A5]at q1;obtain⟨_,rfl⟩:=q1;have w:=Z2 b6 M;obtain⟨a5,h⟩:=Sm h;obtain⟨b0,h⟩:=Sm h;have a5:Sa ((IK f e).take c)=true:=by rw[<-aT,<-Fp];exact a5
      rw[iF]at b0;have r1:(Jn r C [] i f e 0).take c=(Dj r C [] i f e 0).take c:=by
       have:=fR r C [] i f e 0 0 c (by rw[AJ];exact a5)
       rwa[AJ,AJ]at this
      have r2:(Jn r C [] i f e 0).drop (c+n)=(Dj r C [] i f e 0).drop (c+n):=by
       have:=fR r C [] i f e 0 (c+n) f.n b0
       rwa[F3 (by rw[Di,Sk];omega),F3 (by rw[Di,Kg];omega)]at this
      rw[r1,r2]at h;have c2:=Z1 (nx:=X.next) (st:=X.stamp) p1 p2 (λ_=>⟨B,q2⟩) f e 0 (λj d hd=>by simpa using hd);have d9:=Kg r C [] i f e 0;obtain⟨L,c0,c7,a4,h,c9⟩:=Mg (nx:=X.next) (st:=X.stamp) f _ _ out (by
       intro y p;simp only[C7]at p;rcases p with p|p|p
       .exact c2 y (G4 p)
       .exact w y p
       .exact c2 y (Gm p)) h
      split at h
      .rw[AB]at a4;subst a4;obtain⟨s1,s2⟩:=eg c9;obtain⟨s2,s3⟩:=eg s2;have l1:((Dj r C [] i f e 0).take c).length=c:=by simp;omega
       rw[l1]at s1 s2 s3
       -- what stays
       have t1:(Al f L).take c=(Al f e).take c:=by
        refine fN s1 (ef (by rw[l1,EF,Cv];omega) λj y d p hd=>?_);rw[EM]at p hd;have b2:j<c:=by
         rcases Jc j c with h|h
         .exact h
         rw[Ae (by omega)]at p;simp at p
        rw[Af b2]at p hd;have N:=UX a5 j;rw[dq b2]at N;exact Z0 hv B q2 f e 0 j y d N p hd (λj d hd=>by simpa using hd)
       have t3:((Al f L).drop c).drop D.length=(Al f e).drop (c+n):=by
        refine fN s3 (ef (by rw[Di,Di,Kg,Cv]) λj y d p hd=>?_);rw[F2]at p hd;have b2:c+n+j<f.n:=by
         have:=(CY.1 p).1
         rwa[Kg]at this
        have N:=UX b0 j;rw[dq (by omega),F2]at N;exact Z0 hv B q2 f e 0 _ y d N p hd (λj d hd=>by simpa using hd)
       have d0:(((Al f L).drop c).take D.length).length=D.length:=s2.length.symm;have a8:Al f L=(Al f e).take c++(((Al f L).drop c).take D.length++(Al f e).drop (c+n)):=by
        rw[<-t1,<-t3,Jg,Jg]
       obtain⟨z,z1,z2⟩:=O.roots r C _ H _ rfl;have hg:get S.roots r=some (.tr f.n (I.map (Al f))):=by
        cases z with
        |tr _ _=>obtain⟨rfl,rfl⟩:=z2;exact z1
        |_=>exact z2.elim
       obtain⟨u,m,f1,f2,f3,f4,f5⟩:=lG O S.fix D _ o S.roots _ (Al f e) c [] s2 G b4 a0 (by
        rcases W with ⟨V,h2⟩|V
        .left;refine⟨V,λy p=>?_⟩;have:=h2 y p;subst V
         -- it takes no root,and is no nil
         have U:∀(D:List XC),Fw X.roots D=some []->y∈D->EB X.roots y=some none:=by
          intro D
          induction D with
          |nil=>intro _ p;simp at p
          |cons a D ih=>
           intro hi p;simp only[Fw]at hi;split at hi
           .simp at hi
           .rename_i l V h2;rcases AX.1 p with rfl|p
            .exact V
            simp only[Ac]at hi;subst hi;exact ih h2 p
           simp at hi
         have ho:=U D G p;cases y<;>simp only[EB,reduceCtorEq]at ho<;>first
          |exact⟨_,rfl⟩
          |(simp at this;done)
          |(split at ho<;>simp at ho;done)
          |(split at ho<;>(try split at ho)<;>simp at ho;done)
        .right;rw[O.fix];exact AS V) hg q2 (by rw[Cv];omega) (λk hk=>by simp at hk) (λq _=>by rw[Li])
       rw[A0]at f1;obtain⟨a,b,c3⟩:=Vp o Q O (QE Q G);obtain⟨e1,e2,e3,e4⟩:=Vo o X;have d2:lk (X.delRs o).roots r=some (C,.tr f I):=by rw[(Kl o X r).2 a0];exact H
       obtain⟨a',b'⟩:=LA a (x:=.tr f (BS I i L)) (AE _) (show r<(X.delRs o).next by rw[e2];exact p1) (λJ a4=>by simp at a4);have d6:i<I.length:=by
        have:=(CY.1 q2).1;simpa using this
       have C8:(BS I i L).map (Al f)=(I.map (Al f)).set i (Al f L):=by simp[BS,RP]
       have a2:∀F,Bj X.roots X.next X.stamp F->cC ((X.delRs o).setR r (.tr f (BS I i L))).roots F=.un\/cC ((X.delRs o).setR r (.tr f (BS I i L))).roots F=BE m (cC X.roots F):=by
        intro F E;have b8:Bj (X.delRs o).roots (X.delRs o).next (X.delRs o).stamp F:=Bj.ext b.next b.stamp b.roots E;rcases KL (r:=r) (x:=.tr f (BS I i L)) (.inr (.inr (.inr ⟨f,_,I,C,rfl,d2,by simp[BS]⟩))) b8 with h|h
        .exact .inl h
        -- below,it may be dead;else it is as it was
        have hd:cC (X.delRs o).roots F=.un\/cC (X.delRs o).roots F=cC X.roots F:=by
         clear h f1 f3 f4 c3;have c6:∀(l:List Nat) (Y:XSt),XOk Y->(∀q∈l,q<Y.next)->Bj Y.roots Y.next Y.stamp F->cC (Y.delRs l).roots F=.un\/cC (Y.delRs l).roots F=cC Y.roots F:=by
          intro l
          induction l with
          |nil=>intro Y _ _ _;exact .inr rfl
          |cons q l ih=>
           intro Y hY H hc;obtain⟨y1,y2⟩:=LA hY (x:=.gone) (AE _) (H q B5) (λJ h=>by simp at h);have c8:=Bj.ext y2.next y2.stamp y2.roots hc;rcases ih (Y.setR q .gone) y1 (λz hz=>H z (Bx _ hz)) c8 with h|h
           .exact .inl h
           rcases KL (r:=q) (x:=.gone) (.inr (.inl rfl)) hc with g|g
           .exact .inl (h.trans g)
           exact .inr (h.trans g)
         exact c6 o X Q (QE Q G) E
        rcases hd with hd|hd
        .exact .inl (h.trans hd)
        exact rQ f2 (h.trans hd) b8
       have P:=NB (X':=(X.delRs o).setR r (.tr f (BS I i L))) (ks:=m) (roots:=u) Q O e1 e3 a2 (by
        intro q s z A;simp only[XSt.setR]at A;rw[BO]at A;split at A
        .rename_i eq;simp only at eq;subst eq;simp only[Ac,A5]at A;obtain⟨_,rfl⟩:=A;right;intro y p;simp only[D1,Ac]at p;subst p;refine⟨_,f3,rfl, ?_⟩;rw[T]at a8;rw[C8,d0,T];exact DU _ a8.symm
        .rename_i eq;by_cases hm:q∈o
         .obtain⟨s',d5⟩:=(Kl o X q).1 hm;rw[d5]at A;simp only[Ac,A5]at A;obtain⟨_,rfl⟩:=A;exact .inr λy p=>by simp[D1]at p
         .rw[(Kl o X q).2 hm]at A;exact .inl ⟨A,f4 q (λe=>eq e.symm) hm⟩)
       have a1:S.opd x=.a (.c (.pe r [] i c)):=by rw[BT O hp (by simp[cC,hv])];simp only[cC,hv]
       obtain⟨zs,v1,v2,_⟩:=Vh (HJ O v) M;have hz:=KN s2 v2;refine⟨_,_,h,a',b.trans b',trivial,e1,.un,m,u,trivial,P,λR=>?_,λK hK=>?_⟩
       .have b7:∀y∈D,∃v,cC X.roots y=.lf v:=by
         intro y p;simp only[Wq,hp,M,DE]at R;have:=R y p;cases y<;>first|exact⟨_,rfl⟩|simp[Kp]at this
        have hm:=f5 b7;refine⟨hm,λq s z A hs=>?_⟩;simp only[XSt.setR]at A;rw[BO]at A;split at A
        .simp only[Ac,A5]at A;omega
        rename_i eq;by_cases b3:q∈o
        .have b1:o=[]:=by
          have U:∀(D:List XC) (o:List Nat),Fw X.roots D=some o->(∀y∈D,Kp y=true)->o=[]:=by
           intro D
           induction D with
           |nil=>intro o h _;simp only[Fw,Ac]at h;exact h.symm
           |cons y D ih=>
            intro o h H;have h0:=H y B5;simp only[Fw]at h;split at h
            .rename_i V h2;cases y<;>simp[Kp]at h0<;>simp[EB]at V
            .rename_i V h2;simp only[Ac]at h;subst h;exact ih _ h2 λy p=>H y (Bx _ p)
            simp at h
          refine U D o G λy p=>?_;simp only[Wq,hp,M,DE]at R;exact R y p
         rw[b1]at b3;simp at b3
        rw[f4 q (λe=>eq e.symm) b3,hm,Li]
       simp only[wr,a1];refine⟨zs,v1,by rw[hz];simpa using T,Al f e, ?_,by rw[Cv];omega,⟨_,_,hg⟩,(u,m),by rw[hz];exact f1, ?_⟩
       .simp only[St.node,hg,AH,DF];exact q2
       rw[b5,<-e2];exact hK
      simp at h
     simp at h
    .rename_i N G;simp only[A6]at N;have a3:=B6 N.1.1;have T:=B6 N.1.2;subst a3;split at h
     .rename_i hc;simp only[A6]at hc;obtain⟨a9,b9,d4,W⟩:=hc;have a9:=B6 a9;have b9:=B6 b9;have W:=AS W;subst a9;split at h
      .rename_i j e0;obtain⟨c4,h⟩:=Es h;simp only[Wc,AA]at c4;obtain⟨ej,d1,h⟩:=G6 h;have hv:Dp X.roots r C=true:=Lu H;have B:D5 X.roots r []=some (f.n,I.map (Al f)):=by simp only[D5,H];rfl
       obtain⟨l,q1,q2⟩:=p3 hv;rw[B]at q1;simp only[Ac,A5]at q1;obtain⟨_,rfl⟩:=q1;have c1:I[j]?= some ej:=by simpa[idx] using d1
       have a7:(I.map (Al f))[j]?= some (Al f ej):=by rw[CQ,c1];rfl
       have w:=Z2 b6 M;obtain⟨L,e5,c7,c5,h,g1,g2,g3,g4⟩:=jS (nx:=X.next) (st:=X.stamp) hv B a7 f 0 D _ w h;split at h
       .rw[AB]at c5;subst c5;obtain⟨z,z1,z2⟩:=O.roots r C _ H _ rfl;have hg:get S.roots r=some (.tr f.n (I.map (Al f))):=by
         cases z with
         |tr _ _=>obtain⟨rfl,rfl⟩:=z2;exact z1
         |_=>exact z2.elim
        obtain⟨u,m,f1,f2,f3,f4⟩:=lE c4 (show S.fix<=r by rw[O.fix];exact W) (D.map (cC X.roots)) (Al f L) 0 S.roots _ (Al f e) (Al f ej) [] g1 hg q2 a7 (by rw[B3,Cv];omega) (by rw[B3,Cv];omega) (λk hk=>by simp at hk);rw[A0]at f1;obtain⟨a',b'⟩:=LA Q (x:=.tr f (BS (BS I i L) j (Lg f ej))) (AE _) p1 (λJ h=>by simp at h);have C8:(BS (BS I i L) j (Lg f ej)).map (Al f)=((I.map (Al f)).set i (Al f L)).set j ((Al f ej).map OH):=by simp only[BS,RP,jZ f d4]
        rw[AP,AP,A0,A0,AJ,g4,Yw (by rw[Cv,Cv];omega),AB,<-C8]at f3;have a2:∀F,Bj X.roots X.next X.stamp F->cC (X.setR r (.tr f (BS (BS I i L) j (Lg f ej)))).roots F=.un\/cC (X.setR r (.tr f (BS (BS I i L) j (Lg f ej)))).roots F=BE m (cC X.roots F):=by
         intro F E;rcases KL (r:=r) (x:=.tr f (BS (BS I i L) j (Lg f ej))) (.inr (.inr (.inr ⟨f,_,I,C,rfl,H,by simp[BS]⟩))) E with h|h
         .exact .inl h
         exact rQ f2.in_ h E
        have P:=NB (X':=X.setR r (.tr f (BS (BS I i L) j (Lg f ej)))) (ks:=m) (roots:=u) Q O rfl rfl a2 (by
         intro q s z A;simp only[XSt.setR]at A;rw[BO]at A;split at A
         .rename_i eq;simp only at eq;subst eq;simp only[Ac,A5]at A;obtain⟨_,rfl⟩:=A;right;intro y p;simp only[D1,Ac]at p;subst p;exact⟨_,f3,rfl,rfl⟩
         .rename_i eq;exact .inl ⟨A,f4 q (λe=>eq e.symm)⟩)
        have a1:S.opd x=.a (.c (.pe r [] i 0)):=by rw[BT O hp (by simp[cC,hv])];simp only[cC,hv]
        obtain⟨zs,v1,v2,_⟩:=Vh (HJ O v) M;have hz:=rR g3 v2;refine⟨_,_,h,a',b',trivial,rfl,.un,m,u,trivial,P,λR=>?_,λK hK=>?_⟩
        .exfalso;simp only[Wq,hp,M,DE]at R;rw[rc R]at G;simp at G
        simp only[wr,a1];refine⟨zs,v1,by rw[hz];simpa using T,Al f e, ?_,by rw[Cv];omega,⟨_,_,hg⟩,(u,m),by rw[hz];exact f1, ?_⟩
        .simp only[St.node,hg,AH,DF];exact q2
        rw[b5];exact hK
       simp at h
      simp at h
     simp at h
    simp at h
   simp at h
  simp at h
 simp at h
def ez(u:XOk X)(k:SimX X S){x:Opd}{h:Hn}{t:Ty}{o:List t.den}{f:Option Nat}(b:Zl X (X.opd x) h=some ⟨t,o,f⟩){sz:Nat}(y:sz=t.n)(w:∀n,X.opd x=.a (.c (.nl n))->n=sz):
  Oo S.roots (S.opd x)=some (sz,o.map (Al t),f)/\(∀r∈FW f,r<X.next)/\∀q,q ∉ FW f->get (Fh S.roots f) q=get S.roots q:=by
 unfold Zl at b;split at b
 .rename_i n j;split at b
  .simp only[Ac,Sigma.mk.injEq]at b;obtain⟨rfl,b⟩:=b;have b:=eq_of_heq b;simp only[A5]at b;obtain⟨rfl,rfl⟩:=b;refine⟨?_,by simp[FW],λq _=>rfl⟩;rw[BT k j (by simp[cC])];simp only[cC,Oo,w n j];rfl
  simp at b
 .rename_i r j;split at b
  .rename_i s m g i;simp only[Ac,Sigma.mk.injEq]at b;obtain⟨rfl,b⟩:=b;have b:=eq_of_heq b;simp only[A5]at b;obtain⟨rfl,rfl⟩:=b;obtain⟨z,A,p⟩:=k.roots r s _ i _ rfl;have v:get S.roots r=some (.tr m.n (g.map (Al m))):=by
    cases z with
    |tr _ _=>obtain⟨rfl,rfl⟩:=p;exact A
    |_=>exact p.elim
   have l:S.opd x=.a (.c (.rf r [] m.n 0 g.length)):=by rw[BT k j (by simp[cC,i])];simp only[cC,i]
   refine⟨?_, ?_, ?_⟩
   .rw[l];simp only[Oo,v,y,B3,and_self,BF]
   .intro q d;simp only[FW,Db]at d;subst d;exact (u.ids _ _ _ i).1
   intro q d;simp only[FW,Db]at d;simp only[Fh];rw[Ii,Ae (λe=>d e.symm)]
  simp at b
 simp at b
def gw:∀(t:Ty),t.flat=true->∀x:t.den,(Al t x).all VP=true
 |.I _,_,_=>rfl
 |.Y,_,_=>rfl
 |.B,_,_=>rfl
 |.S,_,_=>rfl
 |.L t,h,_=>by simp[Ty.flat]at h
 |.H t,h,_=>by simp[Ty.flat]at h
 |.P a b,h,x=>by
  simp only[Ty.flat,A6]at h;simp only[Al,dv,gw a h.1,gw b h.2,RQ]
def Zlp{R:AK}{c:XC}{d q:Nat}{p:Ao}{s b n:Nat}(h:N6 c=some d)(a:cC R c=.rf q p s b n):d=q:=by
 cases c with
 |rw r=>simp only[N6,Ac]at h;subst h;simp only[cC]at a;split at a<;>simp at a<;>exact a.1
 |rv r _ _=>simp only[N6,Ac]at h;subst h;simp only[cC]at a;split at a<;>simp at a<;>exact a.1
 |rf r v p b t e=>simp only[N6,Ac]at h;subst h;simp only[cC]at a;split at a<;>simp at a;exact a.1
 |_=>simp[N6]at h
def vM(l:List UInt8):Jz ⟨l.toArray⟩=l.map (Al .Y):=rfl
def fW{t:Ty}:∀(a:List t.den),EO t.n a.length (a.map (Al t)).flatten=a.map (Al t)
 |[]=>rfl
 |x::a=>by
  simp only[Aq,EO,A2,Ji];rw[MF (Cv t x),KI (Cv t x),fW a]
def Zll(n:Nat){l:List C}(h:l.all LO=true):(AQ n l).all LO=true:=by
 induction n with
 |zero=>rfl
 |succ n a=>simp only[AQ,dv,h,a,RQ]
def W3{n a:Nat}(h:Bk n a=true):n*a<=140737488355328:=by simpa[Bk] using h
def iD:∀T:Ty,Ma T=true->Al T (SB T)=(zc T).map dL
 |.I _,_=>rfl
 |.Y,_=>rfl
 |.B,_=>rfl
 |.S,_=>rfl
 |.L _,h=>by simp[Ma]at h
 |.H _,_=>rfl
 |.P a b,h=>by
  simp only[Ma,A6]at h;simp only[SB,Al,iD a h.1,iD b h.2,zc,C2]
def y6(u:XOk X)(t:SimX X S){d:List Nat}(v:∀r∈d,r<X.next){f:List (Nat×Root)}(p:∀r,r ∉ d->get f r=get S.roots r):
  XOk (X.delRs d)/\Ext X (X.delRs d)/\SimX (X.delRs d) ⟨S.env,f,S.next,S.fix⟩/\∀r s x,lk (X.delRs d).roots r=some (s,x)->s<X.stamp->get f r=get S.roots r:=by
 obtain⟨a,b,c⟩:=Vp d u t v;refine⟨a,b, ?_,λr s x g w=>?_⟩
 .refine Tw (R:=S.roots) c ?_;intro r s x g y;by_cases j:r∈d
  .obtain⟨A,i⟩:=(Kl d X r).1 j;rw[g]at i;simp only[Ac,A5]at i;exact (y i.2).elim
  exact p r j
 by_cases j:r∈d
 .exfalso;have B:=b.roots r s x g w;obtain⟨A,i⟩:=(Kl d X r).1 j;rw[g]at i;simp only[Ac,A5]at i;have o:∀(l:List Nat) (Y:XSt),r∈l->∀s x,lk (Y.delRs l).roots r=some (s,x)->Y.stamp<=s:=by
   intro l
   induction l with
   |nil=>intro Y h;simp at h
   |cons q l z=>
    intro Y h s x g;by_cases m:r∈l
    .have:=z (Y.setR q .gone) m s x g;have e:(Y.setR q .gone).stamp=Y.stamp+1:=rfl;omega
    have n:=(AX.1 h).resolve_right m;subst n;have k:lk ((Y.setR r .gone).delRs l).roots r=some (s,x):=g;rw[(Kl l (Y.setR r .gone) r).2 m]at k;simp only[XSt.setR]at k;rw[BO,Af rfl]at k;simp only[Ac,A5]at k;omega
  have:=o d X j s x g;omega
 exact p r j
def xA(o:XOk X)(g:SimX X S){h:Hn}{j:W}{k:XV->XSt->Option β}(b:JV X h j k=some out):UV X S j k out:=by
 have F:S.next=X.next:=g.next;cases j with
 |alloc zero=>
  simp only[JV]at b;split at b
  .rename_i B;have e:(zero.map λc=>(X.stamp,Lh c))=((zero.map Lh).map λc=>(X.stamp,c)):=by simp
   rw[e]at b;exact fF o g (Wj X.roots B) (by
    intro c hc;obtain⟨c',_,rfl⟩:=CC.1 hc;exact Wi _ _ _ c') (v:=.a (.c (.pb S.next 0))) (jc F) (DG _) b (λK i=>i)
  simp at b
 |box x=>
  simp only[JV]at b;split at b
  .rename_i cs hc;obtain⟨ys,y1,y2,_⟩:=Vh (HJ g x) hc;exact fF o g y2 (Z2 (Gy o x) hc) (v:=.a (.c (.pb S.next 0))) (jc F) (DG _) b (λK i=>by simp only[wr];exact⟨ys,y1,i⟩)
  simp at b
 |store n x v=>exact Znz o g b
 |mks V N zero l c=>
  simp only[JV]at b;split at b
  .rename_i t z z' w hc;split at b
   .rename_i u;simp only[A6]at u;have B:=gg u.1;have d:=B6 u.2;subst B d;obtain⟨U,b⟩:=Es b;obtain⟨h2,b⟩:=Es b;simp only[Ak,CJ]at U;simp only[Q7,AA]at h2;subst U;obtain⟨k1,e1⟩:=Nl g w;obtain⟨k2,e2⟩:=Nl g hc;refine Qt (ids:=[]) o g (by simp) (λr _=>rfl) b (n:=z'.toNat) (by simp[GX,A9]) (λK i=>?_);simp only[wr,e1,e2];refine⟨trivial,h2.1,h2.2.1,h2.2.2,mH t, ?_⟩;simp only[GX,A9,mj,<-mG]at i;exact i
   simp at b
  simp at b
 |lit V len zero a7=>
  simp only[JV]at b;split at b
  .rename_i B;split at b
   .rename_i cs hf;obtain⟨zs,e1,e2,e3⟩:=gn o g (a7.map λx=>(x.1*V,V,x.2)) _ (AQ len zero) cs (Wj X.roots (Zll len B)) (by
     intro c hc;obtain⟨c',_,rfl⟩:=CC.1 hc;exact Wi _ _ _ c') hf
    split at b
    .exact fF o g e2 e3 (v:=.sb S.next len) (by simp only[cV,OT,F];exact⟨rfl,rfl⟩) (DG _) b (λK i=>by simp only[wr];exact .inr ⟨zs,e1,i⟩)
    .rename_i t;split at b
     .rename_i Z a1;split at b
      .rename_i u;simp only[A6]at u;have d6:=OX u.1;have d:=B6 u.2;subst d;obtain⟨D,b,H,O⟩:=bc (nx:=X.next) (st:=X.stamp) len cs _ out e3 b;have a6:=KN O e2;obtain⟨rt,f1,f2⟩:=Tz g cs _ Z S.roots O a1 d6 (λ_ _=>rfl);refine Qt (roots:=rt) o g (QE o a1) (λr b=>by rw[f2 r,Ae b]) b (n:=len) H.symm (λK i=>?_);simp only[wr];refine .inl ⟨zs,e1,_,by rw[a6];exact f1, ?_⟩;rw[<-H,fW];rw[<-H]at i;exact i
      simp at b
     split at b
     .rename_i d8 a2;split at b
      .rename_i u;simp only[A6]at u;have d:=B6 u.2;subst d;obtain⟨D,b,H,O⟩:=bc (nx:=X.next) (st:=X.stamp) len cs _ out e3 b;have a6:=KN O e2;obtain⟨X2,rt,c1,c2,c3,c4,c5,c6,c7,c8⟩:=cg o g cs _ d8 X S.roots O a2 u.1 o g (lM g a2) b;refine qS o g c3 c4 c5 c6 c7 c8 c1 (n:=len) H.symm (λK i=>?_);simp only[wr];refine .inl ⟨zs,e1,_,by rw[a6];exact c2, ?_⟩;rw[<-H,fW];rw[<-H]at i;exact i
      simp at b
     simp at b
    simp at b
   simp at b
  simp at b
 |s2b x=>
  simp only[JV]at b;split at b
  .rename_i l hx;refine Qt (ids:=[]) (t:=.Y) o g (by simp) (λr _=>rfl) b (n:=l.length) rfl (λK i=>?_);simp only[wr,BT g hx (by simp[cC]),cC,vM,QZ];exact i
  simp at b
 |app V N zero x y=>
  simp only[JV]at b;split at b
  .rename_i t D I n u hy;split at b
   .rename_i B;simp only[A6]at B;have d:=B6 B.1;have P:∀n,X.opd x=.a (.c (.nl n))->n=V:=by
     intro n hn;have:=B.2;rw[hn]at this;exact B6 this
    obtain⟨U,b⟩:=Es b;obtain⟨b1,b2,b3⟩:=ez o g u d P;refine Qt (roots:=Fh S.roots I) o g b2 b3 b (n:=D.length) rfl (λK i=>?_);simp only[wr,b1,BT g hy (by simp[cC]),cC];refine⟨_,rfl,rfl, ?_, ?_⟩
    .rw[B3];exact W3 U
    rw[B3,d];exact i
   simp at b
  .rename_i t D I c d9 u hy;have b6:=Gy o y;rw[hy]at b6;split at b
   .rename_i B;simp only[A6]at B;have d:=B6 B.1;have P:∀n,X.opd x=.a (.c (.nl n))->n=V:=by
     intro n hn;have:=B.2;rw[hn]at this;exact B6 this
    split at b
    .rename_i ry G;split at b
     .simp at b
     rename_i Q;have Q:ry ∉ FW I:=λhm=>by rw[V8.2 hm]at Q;simp at Q
     obtain⟨t',e0,r,p,lo,l,b0,w2,w3,w4,w5,w6⟩:=lv b6 b;clear b;obtain⟨R,b4,ht,w7,w8⟩:=nz b0;clear b0;rw[ht]at w3 w4;obtain⟨U,b⟩:=Es b4;clear b4;rw[w7]at w6;rw[<-w8]at w3 w5 w6;have a4:=Zlp G w3;subst a4;obtain⟨b1,b2,b3⟩:=ez o g u d P;have a5:S.opd y=.a (.c (.rf ry p t.n lo R.length)):=by rw[BT g hy (by rw[w3];simp),w3]
     have a3:some ry≠I:=λe=>Q (by subst e;simp[FW]);have E:S.node ry p=some (V,l):=by rw[OW,ST g w4,d]
     have a9:∀K:KW,K (.a (.c (.rf S.next [] t.n 0 (D.length+R.length)))) [] ((S.next,.tr t.n ((Ax D R).map (Al t)))::Fh S.roots I) (S.next+1)->UY (R.map (Al t))=true->wr S K (.app V N zero x y):=by
      intro K i d0;simp only[wr,b1,a5];refine⟨_,rfl,rfl,d.symm,a3, ?_,l,E,w5,.inl ⟨by rw[w6];exact d0, ?_⟩⟩
      .rw[B3];exact W3 U
      rw[B3,d,w6];simp only[Ax,C2]at i;exact i
     split at b
     .rename_i c0;refine Qt (roots:=Fh S.roots I) o g b2 b3 b (n:=D.length+R.length) (by simp[Ax]) (λK i=>a9 K i ?_);simp only[UY,List.all_map,DE,Function.comp];exact λz _=>DE.1 (gw t c0 z)
     split at b
     .rename_i r0 J m0 b5;have b8:c=.rv r0 J m0:=by
       cases c<;>simp[tq]at b5
       obtain⟨rfl,rfl,rfl⟩:=b5;rfl
      subst b8;simp only[N6,Ac]at G;subst G;split at b
      .rename_i s M L w;have b9:cC X.roots (.rv r0 J m0)=.rf r0 [] M.n J m0:=by simp only[cC,w]
       rw[b9]at w3;simp only[C.rf.injEq]at w3;obtain⟨_,rfl,e3,rfl,rfl⟩:=w3;obtain⟨z,z1,z2⟩:=g.roots r0 s _ w _ rfl;have hg:get S.roots r0=some (.tr M.n (L.map (Al M))):=by
        cases z with
        |tr _ _=>obtain⟨rfl,rfl⟩:=z2;exact z1
        |_=>exact z2.elim
       have c9:l=L.map (Al M):=by
        simp only[D5,w,AH,Ac,A5]at w4;exact w4.2.symm
       subst c9;rw[B3]at w5;obtain⟨d1,d2,d3,d4⟩:=y6 o g b2 b3;obtain⟨v1,v2,v3,v4⟩:=Vo (FW I) X;have d5:lk (X.delRs (FW I)).roots r0=some (s,.tr M L):=by rw[(Kl (FW I) X r0).2 Q];exact w
       obtain⟨k1,k2,k3⟩:=kh (t:=hT M) (xs:=Iq M J R.length L) d1 d3 d5 (aR M) (sF M J R.length L w5);refine qS o g k1 (d2.trans k2) k3 v1 v2 (λq s' z' A hs=>?_) (by rw[show ((X.delRs (FW I)).setR r0 (.tr (hT M) (Iq M J R.length L))).next=X.next from v2];exact b) (n:=D.length+R.length) (by simp[Ax]) (λK i=>?_)
       .simp only[XSt.setR]at A;rw[BO]at A;split at A
        .simp only[Ac,A5]at A;omega
        rename_i e;simp only at e;rw[Bn,Ae e];exact d4 q s' z' A hs
       simp only[wr,b1,a5];refine⟨_,rfl,rfl,d.symm,a3, ?_,_,E,by rw[B3];exact w5,.inr ⟨_,_,hg, ?_⟩⟩
       .rw[B3];exact W3 U
       rw[B3,d,w6];simp only[Ax,C2,Zkd,aR]at i;exact i
      simp at b
     split at b
     .rename_i r' m
      -- the elements are moved
      have a4:r'=ry/\∃s t2 a0,lk X.roots ry=some (s,.tr t2 a0):=by
       cases c<;>simp only[EB,reduceCtorEq,Ac]at m
       .simp only[N6,Ac]at G;subst G;split at m
        .rename_i w;simp only[Ac]at m;exact⟨m.symm,_,_,_,w⟩
        simp at m
       simp only[N6,Ac]at G;subst G;split at m
       .rename_i w;split at m
        .simp only[Ac]at m;exact⟨m.symm,_,_,_,w⟩
        simp at m
       simp at m
      obtain⟨rfl,s,t2,a0,w⟩:=a4;obtain⟨z,z1,z2⟩:=g.roots r' s _ w _ rfl;have hg:get S.roots r'=some (.tr t2.n (a0.map (Al t2))):=by
       cases z with
       |tr _ _=>obtain⟨rfl,rfl⟩:=z2;exact z1
       |_=>exact z2.elim
      refine Qt (roots:=put (Fh S.roots I) r' (.tr t2.n (EL (a0.map (Al t2)) p (LL lo R.length)))) (ids:=r'::FW I) o g (by
       intro q A;rcases AX.1 A with rfl|A
       .exact (o.ids _ _ _ w).1
       .exact b2 q A) (by
       intro q A;rw[AX,not_or]at A;rw[Bn,Ae (λe=>A.1 e.symm)];exact b3 q A.2) b (n:=D.length+R.length) (by simp[Ax]) (λK i=>?_)
      simp only[wr,b1,a5];refine⟨_,rfl,rfl,d.symm,a3, ?_,l,E,w5,.inr ⟨_,_,hg, ?_⟩⟩
      .rw[B3];exact W3 U
      rw[B3,d,w6];simp only[Ax,C2]at i;exact i
     simp at b
    simp at b
   simp at b
  simp at b
 |aps zero x y=>
  simp only[JV]at b;split at b
  .rename_i D I l u hy;split at b
   .rename_i B;have P:∀n,X.opd x=.a (.c (.nl n))->n=1:=by
     intro n hn;rw[hn]at B;exact B6 B
    obtain⟨U,b⟩:=Es b;obtain⟨b1,b2,b3⟩:=ez o g u (sz:=1) rfl P;refine Qt (t:=.Y) (roots:=Fh S.roots I) o g b2 b3 b (n:=D.length+l.length) (by simp[Ax]) (λK i=>?_);simp only[wr,b1,BT g hy (by simp[cC]),cC,QZ,vM];refine⟨_,rfl,rfl, ?_, ?_⟩
    .rw[B3];have:=W3 U;omega
    rw[B3];simp only[Ax,C2]at i;exact i
   simp at b
  simp at b
 |clr V zero x=>
  simp only[JV]at b;split at b
  .rename_i n hx;refine⟨_,_,b,o,Ext.refl X,trivial,rfl,.un,[],S.roots,trivial, ?_,λ_=>⟨rfl,λ_ _ _ _ _=>rfl⟩,λK i=>?_⟩
   .rw[Nq,<-F];exact g
   simp only[wr,BT g hx (by simp[cC]),cC];rw[F];exact i
  .rename_i r lo n hx;split at b
   .rename_i s T D w;split at b
    .rename_i u;simp only[A6]at u;have d:=B6 u.1;have B:=gg u.2.1;subst d B;obtain⟨hn,b⟩:=Es b;simp only[Hq,AA]at hn;obtain⟨z,z1,z2⟩:=g.roots r s _ w _ rfl;have hg:get S.roots r=some (.tr T.n (D.map (Al T))):=by
      cases z with
      |tr _ _=>obtain⟨rfl,rfl⟩:=z2;exact z1
      |_=>exact z2.elim
     have b7:SimX X ⟨S.env,S.roots,S.next,S.fix⟩:=g;obtain⟨k1,k2,k3⟩:=kh (t:=T) (xs:=Ax (BA lo D) (GX n (SB T))) o b7 w rfl (by simp[Ax,BA,GX];omega);refine⟨_,_,b,k1,k2,trivial,rfl,.un,[],_,trivial,by rw[Nq];rw[F]at k3;exact k3,λ_=>⟨rfl,λq s' z' A hs=>?_⟩,λK i=>?_⟩
     .simp only[XSt.setR]at A;rw[BO]at A;split at A
      .simp only[Ac,A5]at A;omega
      rename_i e;simp only at e;rw[Bn,Ae e]
     have d7:S.opd x=.a (.c (.rf r [] T.n lo n)):=by rw[BT g hx (by simp[cC,w])];simp only[cC,w]
     simp only[wr,d7];refine⟨trivial,_,hg,by rw[B3];exact hn, ?_⟩;rw[F];simp only[Ax,BA,GX,C2,Fp,mj,iD T u.2.2]at i;exact i
    simp at b
   simp at b
  simp at b
 |call f a8=>simp[JV]at b
 |calv f a8=>simp[JV]at b
end
end Go.Vs
