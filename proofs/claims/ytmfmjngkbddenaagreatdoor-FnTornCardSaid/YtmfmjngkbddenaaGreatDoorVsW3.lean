import Derived.Laws.Strings2
import Derived.Laws.Concat
import Derived.Test.YtmfmjngkbddenaaGreatDoorVsW2
set_option linter.all false
namespace Go.Vs
variable [Glb]
def toI:XC->Option (IntKind×Int)
 | .i k z=>match k with
  | .u8=>none
  | k=>some (k,z)
 | .y b=>some (.u8,y2i b)
 | _=>none
def mkI (k:IntKind) (z:Int):XC:=match k with
 | .u8=>.y (u8 z)
 | k=>.i k z
def kEq (a b:IntKind):Bool:=decide (a=b)
def Jn (lo n len:Nat):Bool:=decide (lo+n<=len)
def Zkh:BinOp->Int->Bool
 | .shl,b=>iLe 0 b
 | .shr,b=>iLe 0 b
 | .quo,b=>iNe b 0
 | .rem,b=>iNe b 0
 | _,_=>true
def Zki:BinOp->Bool
 | .shl=>false
 | .shr=>false
 | _=>true
def Zc:BinOp->IntKind->Int->Int->Option XC
 | .add,k,a,b=>some (mkI k (Aj k a b))
 | .sub,k,a,b=>some (mkI k (Ba k a b))
 | .mul,k,a,b=>some (mkI k (Dd k a b))
 | .quo,k,a,b=>some (mkI k (Yo5 k a b))
 | .rem,k,a,b=>some (mkI k (De a b))
 | .and,k,a,b=>some (mkI k (Aq k a b))
 | .or,k,a,b=>some (mkI k (iOr k a b))
 | .xor,k,a,b=>some (mkI k (K6 k a b))
 | .andNot,k,a,b=>some (mkI k (Zmx k a b))
 | .shl,k,a,b=>some (mkI k (B9 k a b))
 | .shr,k,a,b=>some (mkI k (Bi k a b))
 | .eql,_,a,b=>some (.b (iEq a b))
 | .neq,_,a,b=>some (.b (iNe a b))
 | .lss,_,a,b=>some (.b (iLt a b))
 | .leq,_,a,b=>some (.b (iLe a b))
 | .gtr,_,a,b=>some (.b (iGt a b))
 | .geq,_,a,b=>some (.b (iGe a b))
def Zbo:BinOp->List UInt8->List UInt8->Option XC
 | .eql,a,b=>some (.b (sEq a b))
 | .neq,a,b=>some (.b (Ag (sEq a b)))
 | .lss,a,b=>some (.b (sLt a b))
 | .leq,a,b=>some (.b (bOr (sLt a b) (sEq a b)))
 | .gtr,a,b=>some (.b (Ag (bOr (sLt a b) (sEq a b))))
 | .geq,a,b=>some (.b (Ag (sLt a b)))
 | _,_,_=>none
def Zw4:BinOp->Bool
 | .add=>true
 | _=>false
def small (a b:List UInt8):Bool:=decide (a.length+b.length<9223372036854775808)
def Zn0 {β:Type}(op:BinOp) (x y:XC) (k:XC->Option β):Option β:=match x,y with
 | .s a,.s b=>match Zw4 op with
  | true=>chk (small a b) (k (.s (Al a b)))
  | false=>match Zbo op a b with
   | some c=>k c
   | none=>none
 | x,y=>match toI x,toI y with
  | some (k1,a),some (k2,b)=>match kEq k1 k2||!Zki op with
   | true=>chk (Zkh op b) (match Zc op k1 a b with
    | some c=>k c
    | none=>none)
   | false=>none
  | _,_=>none
def Cl (r v:Nat) (p:Af) (i:Nat):(t:Ty)->t.den->Nat->List XC
 | .I k,z,_=>[.i k z]
 | .Y,b,_=>[.y b]
 | .B,x,_=>[.b x]
 | .S,l,_=>[.s l]
 | .L t,xs,c=>[.rf r v (p++[(i,c)]) 0 t xs]
 | .H t,o,c=>[match o with|some xs=>.rf r v (p++[(i,c)]) 0 t xs|none=>.un]
 | .P a b,x,c=>Cl r v p i a x.1 c++Cl r v p i b x.2 (c+a.n)
def Iv (r v:Nat) (p:Af) (i:Nat):(t:Ty)->t.den->Nat->List XC
 | .I k,z,_=>[.i k z]
 | .Y,b,_=>[.y b]
 | .B,x,_=>[.b x]
 | .S,l,_=>[.s l]
 | .L t,xs,c=>[.rf r v (p++[(i,c)]) 0 t xs]
 | .H t,o,c=>[.rf r v (p++[(i,c)]) 0 t (Jo o)]
 | .P a b,x,c=>Iv r v p i a x.1 c++Iv r v p i b x.2 (c+a.n)
def hsL:(t:Ty)->t.den->List Bool
 | .H _,o=>[Hl o]
 | .P a b,x=>hsL a x.1++hsL b x.2
 | .I _,_=>[true]
 | .Y,_=>[true]
 | .B,_=>[true]
 | .S,_=>[true]
 | .L _,_=>[true]
def hsO:(t:Ty)->t.den->List (Option Bool)
 | .H _,o=>[some (Hl o)]
 | .P a b,x=>hsO a x.1++hsO b x.2
 | .I _,_=>[none]
 | .Y,_=>[none]
 | .B,_=>[none]
 | .S,_=>[none]
 | .L _,_=>[none]
def Qe {β:Type}:List (Option Bool)->Option β->Option β
 | [],k=>k
 | none::l,k=>Qe l k
 | some b::l,k=>chk b (Qe l k)
def Va:List Bool->Bool
 | []=>true
 | true::l=>Va l
 | false::_=>false
def Pv {β:Type}(R:XRs) (c:XC) (k:(t:Ty)->List t.den->Option β):Option β:=match c with
 | .rw r=>match lk R r with
  | some (_,.tr t xs)=>k t xs
  | some (_,.im t xs)=>k t xs
  | _=>none
 | .rv r lo n=>match lk R r with
  | some (_,.tr t xs)=>chk (Jn lo n xs.length) (k t (Br n (Dw lo xs)))
  | some (_,.im t xs)=>chk (Jn lo n xs.length) (k t (Br n (Dw lo xs)))
  | _=>none
 | .rf r v p lo t ws=>match Cn R r v with
  | true=>k t ws
  | false=>none
 | _=>none
def Zo5 {β:Type}(t:Bool) (a b:XV) (k:XV->Option β):Option β:=match a,b with
 | .a (.c (.b x)),.a (.c (.b y))=>k (.a (.c (.b (Zh6 t x y))))
 | .a (.c (.i k1 x)),.a (.c (.i k2 y))=>match kEq k1 k2 with
  | true=>k (.a (.c (.i k1 (Zh6 t x y))))
  | false=>none
 | a,b=>cnd t (k a) (k b)
def H5:XV->Option (List XC)
 | .a (.c x)=>some [x]
 | .a (.ag cs)=>some cs
 | _=>none
def Vv (X:XSt):List XC->List (Nat×Nat×Opd)->Option (List XC)
 | cs,[]=>some cs
 | cs,(off,sz,x)::rest=>match H5 (X.opd x) with
  | some ys=>match Nat.beq ys.length sz&&Nat.ble (off+sz) cs.length with
   | true=>Vv X (cs.take off++(ys++cs.drop (off+sz))) rest
   | false=>none
  | none=>none
def L2 (x:XV):Option Int:=match x with
 | .a (.c c)=>match toI c with
  | some (_,z)=>some z
  | none=>none
 | _=>none
def Zam:List Int->Nat
 | []=>0
 | _::l=>Nat.succ (Zam l)
def K7:List XC->Option (List Int)
 | []=>some []
 | .i .i64 z::l=>match K7 l with
  | some m=>some (z::m)
  | none=>none
 | _::_=>none
def Zn2 {β:Type}(R:XRs) (c:XC) (k:Int->Option β):Option β:=match c with
 | .nl _=>k 0
 | .rw r=>match lk R r with
  | some (_,.tr t xs)=>k (Ah xs)
  | some (_,.im t xs)=>k (Ah xs)
  | _=>none
 | .rv r lo n=>match lk R r with
  | some (_,.tr t xs)=>k (Int.ofNat n)
  | some (_,.im t xs)=>k (Int.ofNat n)
  | _=>none
 | .rf r v p lo t ws=>match Cn R r v with
  | true=>k (Ah ws)
  | false=>none
 | _=>none
def st0:Option Int->Nat
 | none=>0
 | some l=>nOf l
def Zqc {β:Type}(R:XRs) (z0:Nat) (c:XC) (l:Option Int) (h:Option Int) (k:XC->Option β):Option β:=match c with
 | .rw r=>match lk R r with
  | some (_,.tr t xs)=>match Nat.beq z0 t.n with
   | true=>chk (Di (l.getD 0) (h.getD (Ah xs)) (Ah xs)) (k (.rv r (st0 l) (nOf (h.getD (Ah xs))-st0 l)))
   | false=>none
  | some (v,.im t xs)=>match Nat.beq z0 t.n with
   | true=>chk (Di (l.getD 0) (h.getD (Ah xs)) (Ah xs)) (k (.rf r v [] (st0 l) t (Br (nOf (h.getD (Ah xs))-st0 l) (Dw (st0 l) xs))))
   | false=>none
  | _=>none
 | .rv r lo n=>match lk R r with
  | some (_,.tr t xs)=>match Nat.beq z0 t.n with
   | true=>chk (Di (l.getD 0) (h.getD (Int.ofNat n)) (Int.ofNat n)) (k (.rv r (lo+st0 l) (nOf (h.getD (Int.ofNat n))-st0 l)))
   | false=>none
  | _=>none
 | .rf r v p lo t ws=>match Cn R r v&&Nat.beq z0 t.n with
  | true=>chk (Di (l.getD 0) (h.getD (Ah ws)) (Ah ws)) (k (.rf r v p (lo+st0 l) t (Br (nOf (h.getD (Ah ws))-st0 l) (Dw (st0 l) ws))))
  | false=>none
 | _=>none
def Zm8 {β:Type}(R:XRs) (sz:Nat) (c:XC) (z:Int) (k:XC->Option β):Option β:=match c with
 | .rw r=>match lk R r with
  | some (v,.tr t xs)=>match Nat.beq t.n sz with
   | true=>bnd (idx xs z) fun e=>k (.pe r v [] (nOf z) 0 t e)
   | false=>none
  | some (v,.im t xs)=>match Nat.beq t.n sz with
   | true=>bnd (idx xs z) fun e=>k (.pe r v [] (nOf z) 0 t e)
   | false=>none
  | _=>none
 | .rv r lo n=>match lk R r with
  | some (v,.tr t xs)=>match Nat.beq t.n sz with
   | true=>chk (iLt z (Int.ofNat n)) (bnd (idx (Dw lo xs) z) fun e=>k (.pe r v [] (lo+nOf z) 0 t e))
   | false=>none
  | _=>none
 | .rf r v p lo t ws=>match Cn R r v&&Nat.beq t.n sz with
  | true=>bnd (idx ws z) fun e=>k (.pe r v p (lo+nOf z) 0 t e)
  | false=>none
 | _=>none
def mbI (X:XSt):Option Opd->Option (Option Int)
 | none=>some none
 | some x=>match L2 (X.opd x) with
  | some z=>some (some z)
  | none=>none
def Zsk (cs:List (Nat×XC)):Option (List Int):=match Nat.ble 16 cs.length with
 | true=>K7 (cs.map (·.2))
 | false=>none
def glX {β:Type}(l:List UInt8):Nat->Nat->(List XC->Option β)->Option β
 | _,0,k=>k []
 | o,m+1,k=>bnd (idx l (Int.ofNat o)) fun y=>glX l (o+1) m fun cs=>k (.y y::cs)
def asX:List XV->Option (List XA)
 | []=>some []
 | .a x::l=>match asX l with
  | some r=>some (x::r)
  | none=>none
 | _=>none
def rdX {β:Type}(X:XSt) (i:I) (k:XV->Option β):Option β:=match i with
 | .mv x=>k (X.opd x)
 | .pick c a b=>match X.opd c with
  | .a (.c (.b t))=>Zo5 t (X.opd a) (X.opd b) k
  | _=>none
 | .load n x=>match X.opd x with
  | .a (.c (.pe r v p i c t e))=>match Cn X.roots r v with
   | true=>match n with
    | none=>Qe (((hsO t e).drop c).take 1) (match (Iv r v p i t e 0)[c]? with
     | some y=>k (.a (.c y))
     | none=>none)
    | some m=>match Nat.ble (c+m) t.n with
     | true=>Qe (((hsO t e).drop c).take m) (k (.a (.ag (((Iv r v p i t e 0).drop c).take m))))
     | false=>none
   | false=>none
  | .a (.c (.pb r c))=>match lk X.roots r with
   | some (_,.bx cs)=>match n with
    | none=>match Zsk cs with
     | some l=>bnd (idx l (Int.ofNat c)) fun e=>k (.a (.c (.i .i64 e)))
     | none=>match cs[c]? with
      | some y=>k (.a (.c y.2))
      | none=>none
    | some m=>match Nat.ble (c+m) cs.length with
     | true=>k (.a (.ag (((cs.drop c).take m).map (·.2))))
     | false=>none
   | _=>none
  | .a (.c (.lf (.pointer (some ⟨b,o,none⟩))))=>match Zf1 Glb.tab b with
   | some l=>match n with
    | none=>bnd (idx l (Int.ofNat o)) fun y=>k (.a (.c (.y y)))
    | some m=>glX l o m fun cs=>k (.a (.ag cs))
   | none=>none
  | _=>none
 | .nilc x=>match X.opd x with
  | .a (.c (.pe r v p i c t e))=>match Cn X.roots r v with
   | true=>k (.a (.c (.pe r v p i c t e)))
   | false=>none
  | .a (.c (.pb r c))=>match lk X.roots r with
   | some (_,.bx _)=>k (.a (.c (.pb r c)))
   | _=>none
  | _=>none
 | .bin op x y=>match X.opd x,X.opd y with
  | .a (.c u),.a (.c v)=>Zn0 op u v fun c=>k (.a (.c c))
  | _,_=>none
 | .beq neg x y=>match X.opd x,X.opd y with
  | .a (.c (.b u)),.a (.c (.b v))=>k (.a (.c (.b (match neg with|true=>bNe u v|false=>bEq u v))))
  | _,_=>none
 | .aeq neg n x y=>match X.opd x,X.opd y with
  | .a (.ag cs),.a (.ag ds)=>match K7 cs,K7 ds with
   | some us,some vs=>match Nat.beq (Zam us) n&&Nat.beq (Zam vs) n with
    | true=>k (.a (.c (.b (match neg with|true=>Ag (zEq us vs)|false=>zEq us vs))))
    | false=>none
   | _,_=>none
  | _,_=>none
 | .un op x=>match op,X.opd x with
  | .not,.a (.c (.b u))=>k (.a (.c (.b (Ag u))))
  | .neg,.a (.c (.i kd z))=>k (.a (.c (mkI kd (Zwo kd z))))
  | _,_=>none
 | .conv kd x=>match L2 (X.opd x) with
  | some z=>k (.a (.c (mkI kd (Ai kd z))))
  | none=>none
 | .b2s x=>match X.opd x with
  | .a (.c (.nl _))=>k (.a (.c (.s [])))
  | .a (.c c)=>Pv X.roots c fun t ws=>match t,ws with
   | .Y,ws=>k (.a (.c (.s ws)))
   | _,_=>none
  | _=>none
 | .slc z0 x lo hi=>match X.opd x,mbI X lo,mbI X hi with
  | .a (.c c),some lo,some hi=>Zqc X.roots z0 c lo hi fun c=>k (.a (.c c))
  | _,_,_=>none
 | .ssl x lo hi=>match X.opd x,mbI X lo,mbI X hi with
  | .a (.c (.s l)),some lo,some hi=>match lo.isSome||hi.isSome with
   | true=>chk (Di (lo.getD 0) (hi.getD (Ah l)) (Ah l)) (k (.a (.c (.s (Br (nOf (hi.getD (Ah l))-st0 lo) (Dw (st0 lo) l))))))
   | false=>none
  | _,_,_=>none
 | .fld off n x=>match X.opd x with
  | .a (.ag cs)=>match n with
   | none=>match cs[off]? with
    | some y=>k (.a (.c y))
    | none=>none
   | some m=>match Nat.ble (off+m) cs.length with
    | true=>k (.a (.ag ((cs.drop off).take m)))
    | false=>none
  | _=>none
 | .fad off x=>match X.opd x with
  | .a (.c (.pe r v p i c t e))=>match Cn X.roots r v with
   | true=>k (.a (.c (.pe r v p i (c+off) t e)))
   | false=>none
  | .a (.c (.pb r c))=>match lk X.roots r with
   | some (_,.bx _)=>k (.a (.c (.pb r (c+off))))
   | _=>none
  | .a (.c (.lf (.pointer (some ⟨b,o,none⟩))))=>k (.a (.c (.lf (.pointer (some ⟨b,o+off,none⟩)))))
  | _=>none
 | .iad sz x i=>match X.opd x,L2 (X.opd i) with
  | .a (.c c),some z=>Zm8 X.roots sz c z fun c=>k (.a (.c c))
  | _,_=>none
 | .iaa len sz x i=>match X.opd x,L2 (X.opd i) with
  | .a (.c (.pb r c)),some z=>match lk X.roots r with
   | some (_,.bx _)=>chk (iLe 0 z) (chk (iLt z (Int.ofNat len)) (k (.a (.c (.pb r (c+nOf z*sz))))))
   | _=>none
  | .a (.c (.lf (.pointer (some ⟨b,o,none⟩)))),some z=>chk (iLe 0 z) (chk (iLt z (Int.ofNat len)) (k (.a (.c (.lf (.pointer (some ⟨b,o+nOf z*sz,none⟩)))))))
  | _,_=>none
 | .idx x i=>match X.opd x,L2 (X.opd i) with
  | .a (.c (.s l)),some z=>bnd (idx l z) fun b=>k (.a (.c (.y b)))
  | _,_=>none
 | .ixa len none sz x i=>match X.opd x,L2 (X.opd i) with
  | .a (.ag cs),some z=>match K7 cs,Nat.beq cs.length len&&Nat.beq sz 1 with
   | some l,true=>bnd (idx l z) fun e=>k (.a (.c (.i .i64 e)))
   | _,_=>none
  | _,_=>none
 | .ext i x=>match X.opd x with
  | .tp xs=>match xs[i]? with
   | some y=>k (.a y)
   | none=>none
  | _=>none
 | .len x=>match X.opd x with
  | .a (.c c)=>Zn2 X.roots c fun z=>k (.a (.c (.i .i64 z)))
  | _=>none
 | .sid x=>match X.opd x with
  | .a (.c (.s l))=>k (.a (.c (.s l)))
  | _=>none
 | .sln x=>match X.opd x with
  | .a (.c (.s l))=>k (.a (.c (.i .i64 (Ah l))))
  | _=>none
 | .build zero parts=>match zero.all M2 with
  | true=>match Vv X (zero.map ofC) parts with
   | some cs=>k (.a (.ag cs))
   | none=>none
  | false=>none
 | .mkf f caps=>match asX (caps.map X.opd) with
  | some cs=>k (.fn f cs)
  | none=>none
 | _=>none
end Go.Vs
namespace Go.Vs
variable [Glb]
theorem Nl {R:XRs}{c:XC}{k:IntKind}{z:Int}(h:toI c=some (k,z)):cC R c=.lf (.int k z):=by
 cases c with
 | i k' z'=>cases k'<;>simp only[toI,Ka,Kb,reduceCtorEq]at h<;>(obtain⟨rfl,rfl⟩:=h;rfl)
 | y b=>simp only[toI,Ka,Kb]at h;obtain⟨rfl,rfl⟩:=h;rfl
 | _=>simp [toI]at h
theorem Zod {R:XRs}{nx st:Nat}{k:IntKind}{z:Int}:okC R nx st (mkI k z):=by cases k<;>trivial
theorem Zoc {R:XRs}{k:IntKind}{z:Int}(h:k=.u8->0<=z/\z<256):cC R (mkI k z)=.lf (.int k z):=by
 cases k<;>try rfl
 have:=h rfl;simp only[mkI,cC,u8];congr 2;rw[UInt8.toNat_ofNat',Kpc (by omega)];omega
theorem Yx3 (z:Int):0<=IntKind.u8.wrap z/\IntKind.u8.wrap z<256:=by rw[IntKind.wrap_u8];omega
theorem Zof {R:XRs}{k:IntKind}{z:Int}:cC R (mkI k (k.wrap z))=.lf (.int k (k.wrap z)):=Zoc fun e=>by subst e;exact Yx3 z
theorem Ywb {c:XC}{k:IntKind}{z:Int}(h:toI c=some (k,z)):k=.u8->0<=z/\z<256:=by
 intro e;cases c with
 | i k' z'=>cases k'<;>simp only[toI,Ka,Kb,reduceCtorEq]at h<;>(obtain⟨rfl,rfl⟩:=h;cases e)
 | y b =>
  simp only[toI,Ka,Kb]at h;rw[<-h.2];have:=b.toNat_lt;simp only[y2i];omega
 | _=>simp [toI]at h
theorem Wo {X:XSt}{S:St}(h:SimX X S){r:Nat}{p:Af}{n:Nat×List (List D)}(hn:Ct X.roots r p=some n):Dr S.roots r p=some n:=by
 unfold Ct at hn;unfold Dr;split at hn
 ·rename_i s t xs hl;obtain⟨y,h1,h2⟩:=h.roots r s _ hl _ rfl;cases y with
  | tr a b=>obtain⟨rfl,rfl⟩:=h2;rw[h1];exact hn
  | _=>exact h2.elim
 ·rename_i s t xs hl;obtain⟨y,h1,h2⟩:=h.roots r s _ hl _ rfl;cases y with
  | im a b=>obtain⟨rfl,rfl⟩:=h2;rw[h1];exact hn
  | _=>exact h2.elim
 simp at hn
theorem Zat {R:XRs}{r:Nat}{p:Af}{n:Nat×List (List D)}(hn:Ct R r p=some n) (i c:Nat) :
  Ct R r (p++[(i,c)])=match (n.2[i]?).bind (·[c]?) with|some (.sl sz' es')=>some (sz',es')|_=>none:=by
 unfold Ct at hn ⊢;split at hn
 ·rename_i s t xs hl;exact Zg1 hn i c
 ·rename_i s t xs hl;exact Zg1 hn i c
 simp at hn
theorem P9 {X:XSt}{S:St}(h:SimX X S){r s:Nat}{cs:List (Nat×XC)}(hl:lk X.roots r=some (s,.bx cs)):∃ys,get S.roots r=some (.bx ys)/\Ab WkC ys (cs.map fun e=>cC X.roots e.2):=by
 obtain⟨y,h1,h2⟩:=h.roots r s _ hl _ rfl;cases y with
 | bx ys=>exact⟨ys,h1,h2⟩
 | _=>exact h2.elim
theorem Ycn (r:Nat) (p:Af) (i:Nat):∀(xs ys:List D) (c:Nat),Co r p i c (xs++ys)=Co r p i c xs++Co r p i (c+xs.length) ys
 | [],ys,c=>rfl
 | x::xs,ys,c=>by
  simp only[Kn,Co,Ycn r p i xs ys (c+1),Kf];rw[show c+1+xs.length=c+(xs.length+1) by omega]
theorem Zkx {R:XRs}{r v:Nat}(hv:Cn R r v=true) (p:Af) (i:Nat):∀(t:Ty) (x:t.den) (c:Nat),(Cl r v p i t x c).map (cC R)=Co r p i c (Ae t x)
 | .I _,_,_=>rfl
 | .Y,_,_=>rfl
 | .B,_,_=>rfl
 | .S,_,_=>rfl
 | .L t,xs,c=>by simp [Cl,Ae,Co,toC,cC,hv]
 | .H t,none,c=>rfl
 | .H t,some xs,c=>by simp [Cl,Ae,Co,toC,cC,hv]
 | .P a b,x,c=>by
  simp only[Cl,Kx,Zkx hv p i a,Zkx hv p i b,Ae,Ycn,Bu]
theorem J7 (r v:Nat) (p:Af) (i:Nat):∀(t:Ty) (x:t.den) (c:Nat),(Cl r v p i t x c).length=t.n
 | .I _,_,_=>rfl
 | .Y,_,_=>rfl
 | .B,_,_=>rfl
 | .S,_,_=>rfl
 | .L t,xs,c=>rfl
 | .H t,xs,c=>rfl
 | .P a b,x,c=>by simp only[Cl,Kt,J7 r v p i a,J7 r v p i b,Ty.n]
theorem Qy:∀(t:Ty) (x:t.den),(hsL t x).length=t.n
 | .I _,_=>rfl
 | .Y,_=>rfl
 | .B,_=>rfl
 | .S,_=>rfl
 | .L _,_=>rfl
 | .H _,_=>rfl
 | .P a b,x=>by simp only[hsL,Kt,Qy a,Qy b,Ty.n]
theorem Zf6:∀(t:Ty) (x:t.den),(hsO t x).map (·.getD true)=hsL t x
 | .I _,_=>rfl
 | .Y,_=>rfl
 | .B,_=>rfl
 | .S,_=>rfl
 | .L _,_=>rfl
 | .H _,_=>rfl
 | .P a b,x=>by simp only[hsO,Kx,Zf6 a,Zf6 b,hsL]
theorem Vk {β:Type}:∀{l:List (Option Bool)}{k:Option β}{r:β},Qe l k=some r->Va (l.map (·.getD true))=true/\k=some r
 | [],k,r,h=>⟨rfl,h⟩
 | none::l,k,r,h=>Vk (l:=l) h
 | some b::l,k,r,h=>by
  simp only[Qe]at h;obtain⟨hb,h⟩:=Dt h;subst hb;exact Vk (l:=l) h
theorem Zmv {t:Ty}{x:t.den}{c m:Nat}:(((hsO t x).drop c).take m).map (·.getD true)=((hsL t x).drop c).take m:=by
 rw[Keb,Kfb,Zf6]
theorem Vi (r v:Nat) (p:Af) (i:Nat):∀(t:Ty) (x:t.den) (c:Nat),(Iv r v p i t x c).length=t.n
 | .I _,_,_=>rfl
 | .Y,_,_=>rfl
 | .B,_,_=>rfl
 | .S,_,_=>rfl
 | .L t,xs,c=>rfl
 | .H t,xs,c=>rfl
 | .P a b,x,c=>by simp only[Iv,Kt,Vi r v p i a,Vi r v p i b,Ty.n]
theorem Y9:∀{l:List Bool},Va l=true->∀n:Nat,(l[n]?).getD true=true
 | [],_,n=>by simp
 | true::l,h,0=>by simp
 | true::l,h,n+1=>by simpa using Y9 (l:=l) h n
 | false::l,h,n=>by simp [Va]at h
theorem Zew (r v:Nat) (p:Af) (i:Nat):∀(t:Ty) (x:t.den) (c j:Nat),((hsL t x)[j]?).getD true=true->(Iv r v p i t x c)[j]? = (Cl r v p i t x c)[j]?
 | .I _,_,_,_,_=>rfl
 | .Y,_,_,_,_=>rfl
 | .B,_,_,_,_=>rfl
 | .S,_,_,_,_=>rfl
 | .L t,xs,c,_,_=>rfl
 | .H t,some xs,c,_,_=>rfl
 | .H t,none,c,0,h=>by simp [hsL,Hl]at h
 | .H t,none,c,j+1,h=>by simp [Iv,Cl]
 | .P a b,x,c,j,h=>by
  simp only[Iv,Cl,hsL]at h ⊢;by_cases hj:j<a.n
  ·rw[Ksa (by rw[Qy];exact hj)]at h;rw[Ksa (by rw[Vi];exact hj),Ksa (by rw[J7];exact hj),Zew r v p i a x.1 c j h]
  rw[Kia (by rw[Qy];omega),Qy]at h;rw[Kia (by rw[Vi];omega),Kia (by rw[J7];omega),Vi,J7,Zew r v p i b x.2 _ _ h]
theorem Zkw (r v:Nat) (p:Af) (i:Nat) (t:Ty) (x:t.den) (c0 c m:Nat) (h:Va (((hsL t x).drop c).take m)=true):((Iv r v p i t x c0).drop c).take m=((Cl r v p i t x c0).drop c).take m:=by
 refine Kzc fun j=>?_;have h1:=Y9 h j;rw[Kwa,Kwa];rw[Kwa]at h1;by_cases hj:j<m
 ·rw[if_pos hj,if_pos hj,Kdb,Kdb];rw[if_pos hj,Kdb]at h1;exact Zew r v p i t x c0 (c+j) h1
 rw[if_neg hj,if_neg hj]
theorem Zez {R:XRs}{nx st r v:Nat}(hr:r<nx) (hv:v<st){p:Af}{i sz:Nat}{l:List (List D)}{e:List D}(hn:Cn R r v=true->Ct R r p=some (sz,l)/\l[i]? = some e):∀(t:Ty) (x:t.den) (c:Nat),(∀(j:Nat) (d:D),(Ae t x)[j]? = some d->e[c+j]? = some d)->∀y∈Cl r v p i t x c,okC R nx st y
 | .I _,_,_,_,y,hy=>by simp only[Cl,Koa]at hy;subst hy;trivial
 | .Y,_,_,_,y,hy=>by simp only[Cl,Koa]at hy;subst hy;trivial
 | .B,_,_,_,y,hy=>by simp only[Cl,Koa]at hy;subst hy;trivial
 | .S,_,_,_,y,hy=>by simp only[Cl,Koa]at hy;subst hy;trivial
 | .L t,xs,c,he,y,hy=>by
  simp only[Cl,Koa]at hy;subst hy;refine⟨hr,hv,fun hk=>?_⟩;obtain⟨h1,h2⟩:=hn hk;have h3:=Zat h1 i c;simp only[h2,Kra]at h3;rw[show e[c]? = some (.sl t.n (xs.map (Ae t))) from he 0 _ rfl]at h3;exact⟨_,h3,by simp,by rw[Kja,Kib (by simp)]⟩
 | .H t,none,c,he,y,hy=>by
  simp only[Cl,Koa]at hy;subst hy;trivial
 | .H t,some xs,c,he,y,hy=>by
  simp only[Cl,Koa]at hy;subst hy;refine⟨hr,hv,fun hk=>?_⟩;obtain⟨h1,h2⟩:=hn hk;have h3:=Zat h1 i c;simp only[h2,Kra]at h3;rw[show e[c]? = some (.sl t.n (xs.map (Ae t))) from he 0 _ rfl]at h3;exact⟨_,h3,by simp,by rw[Kja,Kib (by simp)]⟩
 | .P a b,x,c,he,y,hy=>by
  simp only[Cl,Kca]at hy;rcases hy with hy|hy
  ·refine Zez hr hv hn a x.1 c (fun j d hd=>he j d ?_) y hy;simp only[Ae];rw[Ksa (Kfa.1 hd).1];exact hd
  refine Zez hr hv hn b x.2 _ (fun j d hd=>?_) y hy;rw[show c+a.n+j=c+(a.n+j) by omega];refine he _ d ?_;simp only[Ae];rw[Kia (by rw[Bu];omega),Bu,Kmg];exact hd
theorem Zrk {β:Type}{R:XRs}{nx st:Nat}{c:XC}{k:(t:Ty)->List t.den->Option β}{out:β}(hc:okC R nx st c) (h:Pv R c k=some out) :
  ∃(t:Ty) (ws:List t.den) (r:Nat) (p:Af) (lo:Nat) (l:List (List D)),k t ws=some out/\r<nx/\cC R c=.rf r p t.n lo ws.length/\Ct R r p=some (t.n,l)/\lo+ws.length<=l.length/\(l.drop lo).take ws.length=ws.map (Ae t):=by
 unfold Pv at h;split at h
 ·rename_i r;split at h
  ·rename_i s t xs hl;exact⟨t,xs,r,[],0,_,h,hc,by simp [cC,hl],by simp only[Ct,hl];rfl,by simp,by rw[Kja,Kib (by simp)]⟩
  ·rename_i s t xs hl;exact⟨t,xs,r,[],0,_,h,hc,by simp [cC,hl],by simp only[Ct,hl];rfl,by simp,by rw[Kja,Kib (by simp)]⟩
  simp at h
 ·rename_i r lo n;split at h
  ·rename_i s t xs hl;obtain⟨h1,h2⟩:=Dt h;simp only[Jn,decide_eq_true_eq]at h1;have hlen:(Br n (Dw lo xs)).length=n:=by simp [Br,Dw];omega
   refine⟨t,_,r,[],lo,_,h2,hc, ?_,by simp only[Ct,hl];rfl,by rw[hlen];simpa using h1,by rw[hlen];simp [Br,Dw]⟩;rw[hlen];simp [cC,hl]
  ·rename_i s t xs hl;obtain⟨h1,h2⟩:=Dt h;simp only[Jn,decide_eq_true_eq]at h1;have hlen:(Br n (Dw lo xs)).length=n:=by simp [Br,Dw];omega
   refine⟨t,_,r,[],lo,_,h2,hc, ?_,by simp only[Ct,hl];rfl,by rw[hlen];simpa using h1,by rw[hlen];simp [Br,Dw]⟩;rw[hlen];simp [cC,hl]
  simp at h
 ·rename_i r v p lo t ws;split at h
  ·rename_i hv;obtain⟨a1,a2,a3⟩:=hc;obtain⟨l,b1,b2,b3⟩:=a3 hv;exact⟨t,ws,r,p,lo,l,h,a1,by simp [cC,hv],b1,b2,b3⟩
  simp at h
 simp at h
theorem Zi {R:XRs}{y:V}{x:XV}(h:WkV y (cV R x)){cs:List XC}(hc:H5 x=some cs):∃ys,Qb y=some ys/\Ab WkC ys (cs.map (cC R))/\∀zs:List C,True:=by
 cases x with
 | a x =>
  cases y with
  | a y =>
   cases x with
   | c x =>
    cases y with
    | c y=>simp only[H5,Ka]at hc;subst hc;exact⟨[y],rfl,⟨h,trivial⟩,fun _=>trivial⟩
    | ag _=>exact h.elim
   | ag xs =>
    cases y with
    | c y=>exact h.elim
    | ag ys=>simp only[H5,Ka]at hc;subst hc;exact⟨ys,rfl,h,fun _=>trivial⟩
  | _=>exact h.elim
 | _=>simp [H5]at hc
theorem Jg {n:Nat}:∀{ys xs:List C},Ab WkC ys xs->Ab WkC (ys.drop n) (xs.drop n):=by
 induction n with
 | zero=>exact fun h=>h
 | succ n ih=>intro ys xs h;match ys,xs,h with
  | [],[],_=>trivial
  | _::ys,_::xs,h=>exact ih h.2
theorem Jz {n:Nat}:∀{ys xs:List C},Ab WkC ys xs->Ab WkC (ys.take n) (xs.take n):=by
 induction n with
 | zero=>intro ys xs _;trivial
 | succ n ih=>intro ys xs h;match ys,xs,h with
  | [],[],_=>trivial
  | _::ys,_::xs,h=>exact⟨h.1,ih h.2⟩
theorem Nr:∀{ys xs ys' xs':List C},Ab WkC ys xs->Ab WkC ys' xs'->Ab WkC (ys++ys') (xs++xs')
 | [],[],_,_,_,h=>h
 | _::ys,_::xs,_,_,h,h'=>⟨h.1,Nr h.2 h'⟩
 | [],_::_,_,_,h,_=>h.elim
 | _::_,[],_,_,h,_=>h.elim
theorem Zmd {X:XSt}{S:St}(hX:XOk X) (h:SimX X S):∀(parts:List (Nat×Nat×Opd)) (cs:List XC) (ys:List C) (out:List XC),Ab WkC ys (cs.map (cC X.roots))->(∀c∈cs,okC X.roots X.next X.stamp c)->Vv X cs parts=some out ->
  ∃zs,Hh S ys parts=some zs/\Ab WkC zs (out.map (cC X.roots))/\(∀c∈out,okC X.roots X.next X.stamp c)
 | [],cs,ys,out,hw,ho,hf=>by
  simp only[Vv,Ka]at hf;subst hf;exact⟨ys,rfl,hw,ho⟩
 | (off,sz,x)::parts,cs,ys,out,hw,ho,hf=>by
  simp only[Vv]at hf;split at hf
  ·rename_i us hu;split at hf
   ·rename_i hb;simp only[Kd]at hb;have hb1:=Kq hb.1;have hb2:=Kea hb.2;obtain⟨vs,h1,h2,_⟩:=Zi (G7 h x) hu;have l1:=h2.length;have l2:=hw.length;simp only[Ko]at l1 l2;have hok:=Ff hX x;have:=Zmd hX h parts _ (ys.take off++(vs++ys.drop (off+sz))) out ?_ ?_ hf
    ·obtain⟨zs,e1,e2⟩:=this;refine⟨zs, ?_,e2⟩;simp only[Hh,h1];rw[if_pos ⟨by omega,by omega⟩];exact e1
    ·simp only[Kx,Keb,Kfb];exact Nr (Jz hw) (Nr h2 (Jg hw))
    intro c hc;simp only[Kca]at hc;rcases hc with hc|hc|hc
    ·exact ho c (Kjb hc)
    ·generalize X.opd x=v at hu hok;cases v with
     | a v=>cases v with
      | c v=>simp only[H5,Ka]at hu;subst hu;simp only[Koa]at hc;subst hc;exact hok
      | ag v=>simp only[H5,Ka]at hu;subst hu;exact hok c hc
     | _=>simp [H5]at hu
    exact ho c (Kkb hc)
   simp at hf
  simp at hf
theorem Ov {X:XSt}{S:St}(h:SimX X S){x:Opd}{z:Int}(hx:L2 (X.opd x)=some z):∃k,S.opd x=.a (.c (.lf (.int k z))):=by
 unfold L2 at hx;split at hx
 ·rename_i c hc;split at hx
  ·rename_i k z' ht;simp only[Ka]at hx;subst hx;refine⟨k, ?_⟩;rw[Bg h hc (by rw[Nl ht];simp),Nl ht]
  simp at hx
 simp at hx
theorem Wm {X:XSt}{S:St}(h:SimX X S){x:Option Opd}{z:Option Int}(hx:mbI X x=some z):(x=none/\z=none)\/∃k w,z=some w/\x.map S.opd=some (.a (.c (.lf (.int k w)))):=by
 cases x with
 | none=>simp only[mbI,Ka]at hx;exact .inl ⟨rfl,hx.symm⟩
 | some x =>
  simp only[mbI]at hx;split at hx
  ·rename_i w hw;simp only[Ka]at hx;subst hx;obtain⟨k,hk⟩:=Ov h hw;exact .inr ⟨k,w,rfl,by simp [hk]⟩
  simp at hx
theorem Zmb (l:List UInt8) (a b:Nat):(⟨l.toArray⟩:ByteArray).extract a b=⟨((l.drop a).take (b-a)).toArray⟩:=ByteArray.extract_mk l a b
theorem Ue (l:List UInt8):(⟨l.toArray⟩:ByteArray).size=l.length:=rfl
theorem Yvq (l:List UInt8) (n:Nat):(⟨l.toArray⟩:ByteArray)[n]? = l[n]?:=by
 by_cases h:n<l.length
 ·rw[Ku h,ByteArray.getElem?_lt' _ _ h];rfl
 rw[Kjc (by omega),ByteArray.getElem?_ge' _ _ h]
theorem Yvp (a b:List UInt8):(⟨a.toArray⟩:ByteArray)++⟨b.toArray⟩=⟨(a++b).toArray⟩:=ByteArray.mk_append_mk a b
theorem Yvr (a:List UInt8):(⟨a.toArray⟩:ByteArray).toList=a:=ByteArray.toList_mk a
end Go.Vs
namespace Go.Vs
variable [Glb]
def P5 {β:Type}(X:XSt) (S:St) (i:I) (k:XV->Option β) (out:β):Prop :=
 ∃xv,k xv=some out/\okV X.roots X.next X.stamp xv/\∃v,WkV v (cV X.roots xv)/\∀K:V->Prop,K v->ev S K i
section
variable {β:Type} {X:XSt} {S:St} {out:β}
theorem Cw {i:I}{k:XV->Option β}{c:XC}(h1:k (.a (.c c))=some out) (h2:okC X.roots X.next X.stamp c) (h3:∀K:V->Prop,K (.a (.c (cC X.roots c)))->ev S K i):P5 X S i k out :=
 ⟨_,h1,h2,.a (.c (cC X.roots c)),WkC.refl _,h3⟩
theorem Ywa {a b:Int}(ha:0<=a/\a<256):0<=a.tmod b/\a.tmod b<256:=by
 have h1:=Int.tmod_nonneg b ha.1;have h2:a.tmod b<=a:=by
  rw[Int.tmod_def];have:=Int.le_of_lt_add_one (a:=0) (b:=a) (by omega);have h3:0<=b*a.tdiv b:=by
   rcases Int.le_total 0 b with hb|hb
   ·exact Int.mul_nonneg hb (Int.tdiv_nonneg ha.1 hb)
   exact Int.mul_nonneg_of_nonpos_of_nonpos hb (Int.tdiv_nonpos_of_nonneg_of_nonpos ha.1 hb)
  omega
 omega
theorem Yjw {a:Int}{n:Nat}(ha:0<=a/\a<256):0<=a.fdiv (2^n)/\a.fdiv (2^n)<256:=by
 have hp:(0:Int)<2^n:=Int.pow_pos (by omega);rw[Kng _ (Int.le_of_lt hp)];exact⟨Int.ediv_nonneg ha.1 (Int.le_of_lt hp),Int.lt_of_le_of_lt (Int.ediv_le_self _ ha.1) ha.2⟩
theorem Yu1 {R:XRs}{op:BinOp}{a b:List UInt8}{c:XC}(h:Zbo op a b=some c):∃r,O2 op (.string ⟨a.toArray⟩) (.string ⟨b.toArray⟩)=some r/\cC R c=.lf r:=by
 cases op<;>simp only[Zbo,Ka,reduceCtorEq]at h<;>(subst h;refine⟨_,rfl, ?_⟩;simp only[Yvr];rfl)
theorem Ye3 {R:XRs}{op:BinOp}{k1 k2:IntKind}{a b:Int}{c:XC}(hk:(kEq k1 k2||!Zki op)=true) (hb:Zkh op b=true) (hr:k1=.u8->0<=a/\a<256) (h:Zc op k1 a b=some c):∃r,O2 op (.int k1 a) (.int k2 b)=some r/\cC R c=.lf r:=by
 cases op<;>simp only[Zc,Ka,reduceCtorEq]at h<;>subst h<;>simp only[Zkh,iLe,iNe,bne_iff_ne,ne_eq,decide_eq_true_eq]at hb <;>
  simp only[Zki,kEq,Ksc,Kud,Bool.or_false,Krf,decide_eq_true_eq]at hk<;>(try subst hk)<;>simp only[O2,if_true,hb,not_false_eq_true,and_self]
 all_goals first|refine⟨_,rfl, ?_⟩|refine⟨_,if_pos ⟨trivial,hb⟩, ?_⟩
 all_goals first
  | exact Zof
  | rfl
  | exact Zoc fun e=>Ywa (hr e)
  | exact Zoc fun e=>Yjw (hr e)
theorem Ye2 {R:XRs}{nx st:Nat}{op:BinOp}{k1:IntKind}{a b:Int}{c:XC}(h:Zc op k1 a b=some c):okC R nx st c:=by
 cases op<;>simp only[Zc,Ka,reduceCtorEq]at h<;>subst h<;>first|exact Zod|trivial
theorem Yu0 {R:XRs}{nx st:Nat}{op:BinOp}{a b:List UInt8}{c:XC}(h:Zbo op a b=some c):okC R nx st c:=by
 cases op<;>simp only[Zbo,Ka,reduceCtorEq]at h<;>subst h<;>trivial
theorem Yq8 (hX:XOk X) (hS:SimX X S){op:BinOp}{x y:Opd}{u v:XC}{k:XV->Option β}(hu:X.opd x=.a (.c u)) (hv:X.opd y=.a (.c v)) (h:Zn0 op u v (fun c=>k (.a (.c c)))=some out):P5 X S (.bin op x y) k out:=by
 unfold Zn0 at h;split at h
 ·rename_i a b;have e1:=Bg hS hu (by simp [cC]);have e2:=Bg hS hv (by simp [cC]);split at h
  ·rename_i hop;obtain⟨h1,h2⟩:=Dt h;simp only[small,decide_eq_true_eq]at h1;refine Cw h2 trivial fun K hK=>?_;simp only[ev,e1,e2,cC];cases op<;>simp [Zw4]at hop
   refine⟨_, ?_,hK⟩;simp only[O2];rw[if_pos (by rw[Ue,Ue];exact h1),Yvp];rfl
  split at h
  ·rename_i c hc;refine Cw h (Yu0 hc) fun K hK=>?_;obtain⟨r,h1,h2⟩:=Yu1 (R:=X.roots) hc;rw[h2]at hK;simp only[ev,e1,e2,cC];exact⟨r,h1,hK⟩
  simp at h
 split at h
 ·rename_i k1 a k2 b h1 h2;split at h
  ·rename_i hk;obtain⟨hc,h⟩:=Dt h;split at h
   ·rename_i c hb;have e1:=Bg hS hu (by rw[Nl h1];simp);have e2:=Bg hS hv (by rw[Nl h2];simp);rw[Nl h1]at e1;rw[Nl h2]at e2;refine Cw h (Ye2 hb) fun K hK=>?_;obtain⟨r,h1,h2⟩:=Ye3 (R:=X.roots) hk hc (Ywb h1) hb;rw[h2]at hK;simp only[ev,e1,e2];exact⟨r,h1,hK⟩
   simp at h
  simp at h
 simp at h
theorem Zch {l h n:Int}(k:Di l h n=true):0<=l/\l<=h/\h<=n:=by simpa [Di] using k
theorem Ybv (l:Option Int):st0 l=nOf (l.getD 0):=by cases l<;>rfl
theorem Ybs {α:Type}{ws:List α}{l h:Int}(k:0<=l/\l<=h/\h<=(ws.length:Int)):(Br (nOf h-nOf l) (Dw (nOf l) ws)).length=h.toNat-l.toNat:=by
 simp only[Br,Dw,nOf,Kua,Kma];omega
theorem Zfp {z0:Nat}{x:Opd}{lo hi:Option Opd}{r:Nat}{p:Af}{l0 n:Nat}{xl:Option Int}{xh:Option Int}(hx:S.opd x=.a (.c (.rf r p z0 l0 n))) (hl:(lo=none/\xl=none)\/∃k w,xl=some w/\lo.map S.opd=some (.a (.c (.lf (.int k w))))) (hh:(hi=none/\xh=none)\/∃k w,xh=some w/\hi.map S.opd=some (.a (.c (.lf (.int k w)))))
  (hw:0<=xl.getD 0/\xl.getD 0<=xh.getD n/\xh.getD n<=n) {K:V->Prop} (hK:K (.a (.c (.rf r p z0 (l0+(xl.getD 0).toNat) ((xh.getD n).toNat-(xl.getD 0).toNat))))):ev S K (.slc z0 x lo hi):=by
 rcases hl with ⟨rfl,rfl⟩|⟨k1,w1,rfl,e1⟩<;>rcases hh with ⟨rfl,rfl⟩|⟨k2,w2,rfl,e2⟩
 ·simp only[ev,hx,Kxb,Kue]at hK ⊢;simpa using hK
 ·simp only[ev,hx,Kxb,e2,Kue,Kub]at hK hw ⊢;exact⟨trivial,⟨by omega,hw.2.2⟩,by simpa using hK⟩
 ·simp only[ev,hx,Kxb,e1,Kue,Kub,Knb]at hK hw ⊢;exact⟨trivial,⟨hw.1,hw.2.1⟩,hK⟩
 simp only[ev,hx,e1,e2,Kub]at hK hw ⊢;exact⟨trivial,hw,hK⟩
theorem Yvc (hX:XOk X) (hS:SimX X S){z0:Nat}{x:Opd}{lo hi:Option Opd}{c:XC}{xl xh:Option Int}{k:XV->Option β}(hx:X.opd x=.a (.c c)) (hl:mbI X lo=some xl) (hh:mbI X hi=some xh) (h:Zqc X.roots z0 c xl xh (fun c=>k (.a (.c c)))=some out):P5 X S (.slc z0 x lo hi) k out:=by
 have hok:okC X.roots X.next X.stamp c:=by have:=Ff hX x;rw[hx]at this;exact this
 have L:=Wm hS hl;have H:=Wm hS hh;unfold Zqc at h;simp only[Ybv]at h;split at h
 ·rename_i r;split at h
  ·rename_i s t xs hr;split at h
   ·rename_i hz;have hz:=Kq hz;subst hz;obtain⟨h1,h2⟩:=Dt h;have h1:=Zch h1;refine Cw h2 hok fun K hK=>?_;simp only[cC,hr]at hK;have hxS:S.opd x=.a (.c (.rf r [] t.n 0 xs.length)):=by rw[Bg hS hx (by simp [cC,hr])];simp only[cC,hr]
    exact Zfp hxS L H h1 (by simpa [nOf,Ah] using hK)
   simp at h
  ·rename_i v t xs hr;split at h
   ·rename_i hz;have hz:=Kq hz;subst hz;obtain⟨h1,h2⟩:=Dt h;have h1:=Zch h1;have hv:Cn X.roots r v=true:=Mj hr;have hlen:=Ybs (ws:=xs) h1;have hnode:Ct X.roots r []=some (t.n,xs.map (Ae t)):=by simp only[Ct,hr];rfl
    simp only[Ah]at h1 h2 hlen;refine Cw h2 ⟨hok,(hX.ids r v _ hr).2,fun _=>⟨_,hnode, ?_, ?_⟩⟩ fun K hK=>?_
    ·rw[hlen];simp only[nOf,Ko];omega
    ·rw[hlen];simp only[Br,Dw,nOf,Keb,Kfb]
    simp only[cC,hv,hlen]at hK;have hxS:S.opd x=.a (.c (.rf r [] t.n 0 xs.length)):=by rw[Bg hS hx (by simp [cC,hr])];simp only[cC,hr]
    exact Zfp hxS L H h1 (by simpa [nOf,Ah] using hK)
   simp at h
  simp at h
 ·rename_i r l0 n;split at h
  ·rename_i s t xs hr;split at h
   ·rename_i hz;have hz:=Kq hz;subst hz;obtain⟨h1,h2⟩:=Dt h;have h1:=Zch h1;refine Cw h2 hok fun K hK=>?_;simp only[cC,hr]at hK;exact Zfp (by rw[Bg hS hx (by simp [cC,hr])];simp only[cC,hr]) L H h1 hK
   simp at h
  simp at h
 ·rename_i r v p l0 t ws;split at h
  ·rename_i hz;simp only[Kd]at hz;obtain⟨hv,hz⟩:=hz;have hz:=Kq hz;subst hz;obtain⟨h1,h2⟩:=Dt h;have h1:=Zch h1;have hlen:=Ybs (ws:=ws) h1;simp only[Ah]at h1 h2 hlen;obtain⟨a1,a2,a3⟩:=hok;obtain⟨l,b1,b2,b3⟩:=a3 hv;refine Cw h2 ⟨a1,a2,fun _=>⟨l,b1, ?_, ?_⟩⟩ fun K hK=>?_
   ·rw[hlen];simp only[nOf];omega
   ·rw[hlen];simp only[Br,Dw,nOf,Keb,Kfb,<-b3];rw[List.drop_take,List.take_take,Kbd];congr 1;omega
   simp only[cC,hv,hlen]at hK;exact Zfp (by rw[Bg hS hx (by simp [cC,hv])];simp only[cC,hv]) L H h1 hK
  simp at h
 simp at h
theorem Ygs {α:Type}{l:List α}{lo n:Nat}{ws:List (List D)}{l':List (List D)}{i:Nat}{e:List D}(h:(l'.drop lo).take n=ws) (hi:ws[i]? = some e):l'[lo+i]? = some e:=by
 subst h;rw[Kwa]at hi;split at hi
 ·simpa using hi
 simp at hi
theorem Zfo {sz:Nat}{x j:Opd}{r:Nat}{p:Af}{lo n:Nat}{kd:IntKind}{z:Int}(hx:S.opd x=.a (.c (.rf r p sz lo n))) (hj:S.opd j=.a (.c (.lf (.int kd z)))) (h0:0<=z) (h1:z.toNat<n){K:V->Prop}(hK:K (.a (.c (.pe r p (lo+z.toNat) 0)))):ev S K (.iad sz x j):=by
 simp only[ev,hx,hj];exact⟨trivial,⟨h0,by omega⟩,hK⟩
theorem Yp4 (hX:XOk X) (hS:SimX X S){sz:Nat}{x j:Opd}{c:XC}{z:Int}{k:XV->Option β}(hx:X.opd x=.a (.c c)) (hj:L2 (X.opd j)=some z) (h:Zm8 X.roots sz c z (fun c=>k (.a (.c c)))=some out):P5 X S (.iad sz x j) k out:=by
 have hok:okC X.roots X.next X.stamp c:=by have:=Ff hX x;rw[hx]at this;exact this
 obtain⟨kd,J⟩:=Ov hS hj;unfold Zm8 at h;split at h
 ·rename_i r;split at h
  ·rename_i v t xs hr;split at h
   ·rename_i hz;have hz:=Kq hz;subst hz;obtain⟨e,h1,h2⟩:=Gs h;obtain⟨h0,h1⟩:=Wb h1;have hv:Cn X.roots r v=true:=Mj hr;have hnode:Ct X.roots r []=some (t.n,xs.map (Ae t)):=by simp only[Ct,hr];rfl
    have hxS:S.opd x=.a (.c (.rf r [] t.n 0 xs.length)):=by rw[Bg hS hx (by simp [cC,hr])];simp only[cC,hr]
    refine Cw h2 ⟨hok,(hX.ids r v _ hr).2,fun _=>⟨_,hnode, ?_⟩⟩ fun K hK=>?_
    ·rw[Kba,nOf,h1];rfl
    simp only[cC,hv]at hK;exact Zfo hxS J h0 (Kfa.1 h1).1 (by simpa [nOf] using hK)
   simp at h
  ·rename_i v t xs hr;split at h
   ·rename_i hz;have hz:=Kq hz;subst hz;obtain⟨e,h1,h2⟩:=Gs h;obtain⟨h0,h1⟩:=Wb h1;have hv:Cn X.roots r v=true:=Mj hr;have hnode:Ct X.roots r []=some (t.n,xs.map (Ae t)):=by simp only[Ct,hr];rfl
    have hxS:S.opd x=.a (.c (.rf r [] t.n 0 xs.length)):=by rw[Bg hS hx (by simp [cC,hr])];simp only[cC,hr]
    refine Cw h2 ⟨hok,(hX.ids r v _ hr).2,fun _=>⟨_,hnode, ?_⟩⟩ fun K hK=>?_
    ·rw[Kba,nOf,h1];rfl
    simp only[cC,hv]at hK;exact Zfo hxS J h0 (Kfa.1 h1).1 (by simpa [nOf] using hK)
   simp at h
  simp at h
 ·rename_i r lo n;split at h
  ·rename_i v t xs hr;split at h
   ·rename_i hz;have hz:=Kq hz;subst hz;obtain⟨hlt,h⟩:=Dt h;simp only[iLt,decide_eq_true_eq,Kog]at hlt;obtain⟨e,h1,h2⟩:=Gs h;obtain⟨h0,h1⟩:=Wb h1;have hv:Cn X.roots r v=true:=Mj hr;have hnode:Ct X.roots r []=some (t.n,xs.map (Ae t)):=by simp only[Ct,hr];rfl
    have hxS:S.opd x=.a (.c (.rf r [] t.n lo n)):=by rw[Bg hS hx (by simp [cC,hr])];simp only[cC,hr]
    refine Cw h2 ⟨hok,(hX.ids r v _ hr).2,fun _=>⟨_,hnode, ?_⟩⟩ fun K hK=>?_
    ·simp only[Dw,Kdb]at h1;rw[Kba,nOf,h1];rfl
    simp only[cC,hv]at hK;exact Zfo hxS J h0 (by omega) hK
   simp at h
  simp at h
 ·rename_i r v p lo t ws;split at h
  ·rename_i hz;simp only[Kd]at hz;obtain⟨hv,hz⟩:=hz;have hz:=Kq hz;subst hz;obtain⟨e,h1,h2⟩:=Gs h;obtain⟨h0,h1⟩:=Wb h1;obtain⟨a1,a2,a3⟩:=hok;obtain⟨l,b1,b2,b3⟩:=a3 hv;have hxS:S.opd x=.a (.c (.rf r p t.n lo ws.length)):=by rw[Bg hS hx (by simp [cC,hv])];simp only[cC,hv]
   refine Cw h2 ⟨a1,a2,fun _=>⟨l,b1, ?_⟩⟩ fun K hK=>?_
   ·refine Ygs (α:=Nat) (l:=[]) b3 ?_;rw[Kba,nOf,h1];rfl
   simp only[cC,hv]at hK;exact Zfo hxS J h0 (Kfa.1 h1).1 hK
  simp at h
 simp at h
theorem Yrc (hX:XOk X) (hS:SimX X S){x:Opd}{c:XC}{k:XV->Option β}(hx:X.opd x=.a (.c c)) (h:Zn2 X.roots c (fun z=>k (.a (.c (.i .i64 z))))=some out):P5 X S (.len x) k out:=by
 unfold Zn2 at h;split at h
 ·refine Cw h trivial fun K hK=>?_;simp only[ev,Bg hS hx (by simp [cC])];exact hK
 ·rename_i r;split at h
  ·rename_i v t xs hr;refine Cw h trivial fun K hK=>?_;have hxS:S.opd x=.a (.c (.rf r [] t.n 0 xs.length)):=by rw[Bg hS hx (by simp [cC,hr])];simp only[cC,hr]
   simp only[ev,hxS];exact hK
  ·rename_i v t xs hr;refine Cw h trivial fun K hK=>?_;have hxS:S.opd x=.a (.c (.rf r [] t.n 0 xs.length)):=by rw[Bg hS hx (by simp [cC,hr])];simp only[cC,hr]
   simp only[ev,hxS];exact hK
  simp at h
 ·rename_i r lo n;split at h
  ·rename_i v t xs hr;refine Cw h trivial fun K hK=>?_;have hxS:S.opd x=.a (.c (.rf r [] t.n lo n)):=by rw[Bg hS hx (by simp [cC,hr])];simp only[cC,hr]
   simp only[ev,hxS];exact hK
  ·rename_i v t xs hr;refine Cw h trivial fun K hK=>?_;have hxS:S.opd x=.a (.c (.rf r [] t.n lo n)):=by rw[Bg hS hx (by simp [cC,hr])];simp only[cC,hr]
   simp only[ev,hxS];exact hK
  simp at h
 ·rename_i r v p lo t ws;split at h
  ·rename_i hv;refine Cw h trivial fun K hK=>?_;have hxS:S.opd x=.a (.c (.rf r p t.n lo ws.length)):=by rw[Bg hS hx (by simp [cC,hv])];simp only[cC,hv]
   simp only[ev,hxS];exact hK
  simp at h
 simp at h
theorem Yso (hX:XOk X) (hS:SimX X S){c a b:Opd}{t:Bool}{k:XV->Option β}(hc:X.opd c=.a (.c (.b t))) (h:Zo5 t (X.opd a) (X.opd b) k=some out):P5 X S (.pick c a b) k out:=by
 have hcS:S.opd c=.a (.c (.lf (.bool t))):=Bg hS hc (by simp [cC]);have hev:∀K:V->Prop,K (if t=true then S.opd a else S.opd b)->ev S K (.pick c a b):=by
  intro K hK;simp only[ev,hcS];cases t<;>simpa using hK
 unfold Zo5 at h;split at h
 ·rename_i x y ha hb;refine⟨_,h,trivial,_, ?_,hev⟩;have e1:=Bg hS ha (by simp [cC]);have e2:=Bg hS hb (by simp [cC]);rw[e1,e2];cases t<;>exact WkC.refl _
 ·rename_i k1 x k2 y ha hb;split at h
  ·rename_i hk;simp only[kEq,decide_eq_true_eq]at hk;subst hk;refine⟨_,h,trivial,_, ?_,hev⟩;have e1:=Bg hS ha (by simp [cC]);have e2:=Bg hS hb (by simp [cC]);rw[e1,e2];cases t<;>exact WkC.refl _
  simp at h
 rcases Ze5 h with ⟨rfl,h⟩|⟨rfl,h⟩
 ·exact⟨_,h,Ff hX a,_,G7 hS a,fun K hK=>hev K (by simpa using hK)⟩
 exact⟨_,h,Ff hX b,_,G7 hS b,fun K hK=>hev K (by simpa using hK)⟩
end
end Go.Vs
namespace Go.Vs
variable [Glb]
section
variable {β:Type} {X:XSt} {S:St} {out:β}
theorem Zsp:∀ws:List UInt8,Sh (ws.map (Ae .Y))=some ws
 | []=>rfl
 | b::ws=>by
  have:=Zsp ws;simp only[Ke,Ae,Sh]at this ⊢;rw[this];simp
theorem Un:∀{ys xs:List C}{i:Nat}{x:C},Ab WkC ys xs->xs[i]? = some x->∃y,ys[i]? = some y/\WkC y x
 | [],[],i,x,_,h=>by simp at h
 | y::ys,x'::xs,0,x,h,hx=>by simp at hx;subst hx;exact⟨y,rfl,h.1⟩
 | y::ys,x'::xs,i+1,x,h,hx=>by simpa using Un h.2 (by simpa using hx)
 | [],_::_,_,_,h,_=>h.elim
 | _::_,[],_,_,h,_=>h.elim
theorem Zrm:∀{ys xs:List A}{i:Nat}{x:A},Ab WkA ys xs->xs[i]? = some x->∃y,ys[i]? = some y/\WkA y x
 | [],[],i,x,_,h=>by simp at h
 | y::ys,x'::xs,0,x,h,hx=>by simp at hx;subst hx;exact⟨y,rfl,h.1⟩
 | y::ys,x'::xs,i+1,x,h,hx=>by simpa using Zrm h.2 (by simpa using hx)
 | [],_::_,_,_,h,_=>h.elim
 | _::_,[],_,_,h,_=>h.elim
theorem Znh {R:XRs}:∀{cs:List XC}{l:List Int},K7 cs=some l->cs.map (cC R)=l.map fun z=>C.lf (.int .i64 z)
 | [],l,h=>by simp only[K7,Ka]at h;subst h;rfl
 | c::cs,l,h=>by
  unfold K7 at h;split at h
  ·rename_i heq;simp at heq
  ·rename_i z l' heq;split at h
   ·rename_i m hm;simp only[Ka]at h;subst h;cases heq;simp only[Ke,Znh hm];rfl
   simp at h
  simp at h
theorem Zv2 {R:XRs}{nx st b:Nat}{l:List UInt8}(hl:Zf1 Glb.tab b=some l):∀(o m:Nat) (k:List XC->Option β),glX l o m k=some out->∃cs,k cs=some out/\(∀c∈cs,okC R nx st c)/\∃vs,S8 b o m=some vs/\cs.map (cC R)=vs.map .lf
 | o,0,k,h=>⟨[],h,by simp,[],rfl,rfl⟩
 | o,m+1,k,h=>by
  simp only[glX]at h;obtain⟨y,hy,h⟩:=Gs h;obtain⟨cs,h1,h2,vs,h3,h4⟩:=Zv2 hl (o+1) m _ h;have hy':l[o]? = some y:=by simpa [idx] using hy
  refine⟨.y y::cs,h1, ?_,.int .u8 y.toNat::vs, ?_, ?_⟩
  ·intro c hc;rcases Kh.1 hc with rfl|hc
   ·trivial
   exact h2 c hc
  ·simp only[S8,F0,hl,hy',h3]
  simp only[Ke,h4];rfl
theorem Yre (hX:XOk X) (hS:SimX X S){n:Option Nat}{x:Opd}{k:XV->Option β}(h:rdX X (.load n x) k=some out):P5 X S (.load n x) k out:=by
 have hok:=Ff hX x;simp only[rdX]at h;split at h
 ·rename_i r v p i c t e hx;rw[hx]at hok;obtain⟨a1,a2,a3⟩:=hok;split at h
  ·rename_i hv;obtain⟨l,b1,b2⟩:=a3 hv;have hxS:S.opd x=.a (.c (.pe r p i c)):=by rw[Bg hS hx (by simp [cC,hv])];simp only[cC,hv]
   have hnode:S.node r p=some (t.n,l):=by rw[Ra];exact Wo hS b1
   have hcells:=Zkx hv p i t e 0;have hcok:=Zez (nx:=X.next) (st:=X.stamp) a1 a2 (fun _=>⟨b1,b2⟩) t e 0 (fun j d hd=>by simpa using hd);split at h
   ·obtain⟨hch,h⟩:=Vk h;rw[Zmv]at hch;have hch:=Y9 hch 0;rw[Kpg (by omega),Kdb,Kga]at hch;rw[Zew r v p i t e 0 c hch]at h;split at h
    ·rename_i y hy;refine Cw h (hcok y (Kaa hy)) fun K hK=>?_;have h1:((Cl r v p i t e 0).map (cC X.roots))[c]? = some (cC X.roots y):=by rw[Kba,hy];rfl
     rw[hcells]at h1;have key:∀(ds:List D) (c0 c:Nat) (z:C),(Co r p i c0 ds)[c]? = some z->∃d,ds[c]? = some d/\z=toC r p i (c0+c) d:=by
      intro ds
      induction ds with
      | nil=>intro c0 c z hz;simp [Co]at hz
      | cons d ds ih =>
       intro c0 c z hz;cases c with
       | zero=>simp [Co]at hz;exact⟨d,rfl,hz.symm⟩
       | succ c =>
        simp only[Co,Kpa]at hz;obtain⟨d',h1,h2⟩:=ih (c0+1) c z hz;exact⟨d',by simpa using h1,by rw[h2,show c0+1+c=c0+(c+1) by omega]⟩
     obtain⟨d,hd,hz⟩:=key _ 0 c _ h1;simp only[Kr]at hz;simp only[ev,hxS];refine⟨d, ?_,by rw[<-hz];exact hK⟩;rw[hnode];simp only[Kra,b2,hd]
    simp at h
   rename_i m;split at h
   ·rename_i hm;have hm:=Kea hm;obtain⟨hch,h⟩:=Vk h;rw[Zmv]at hch;rw[Zkw r v p i t e 0 c m hch]at h;refine⟨_,h, ?_,.a (.ag (((Cl r v p i t e 0).drop c |>.take m).map (cC X.roots))),Ab.refl WkC.refl _,fun K hK=>?_⟩
    ·intro y hy;exact hcok y (Kkb (Kjb hy))
    simp only[ev,hxS];refine⟨Ae t e,by rw[hnode];simp only[Kra,b2],by rw[Bu];exact hm, ?_⟩;have key:∀(c c0:Nat) (ds:List D),(Co r p i c0 ds).drop c=Co r p i (c0+c) (ds.drop c):=by
     intro c
     induction c with
     | zero=>intro c0 ds;rfl
     | succ c ih =>
      intro c0 ds;cases ds with
      | nil=>simp [Co]
      | cons d ds =>
       simp only[Co,Klb,ih];rw[show c0+1+c=c0+(c+1) by omega]
    have key2:∀(m c0:Nat) (ds:List D),(Co r p i c0 ds).take m=Co r p i c0 (ds.take m):=by
     intro m
     induction m with
     | zero=>intro c0 ds;rfl
     | succ m ih =>
      intro c0 ds;cases ds with
      | nil=>simp [Co]
      | cons d ds=>simp only[Co,Khb,ih]
    simp only[Keb,Kfb,hcells,key,key2,Kr]at hK;exact hK
   simp at h
  simp at h
 ·rename_i r c hx;split at h
  ·rename_i s cs hr;have hxS:S.opd x=.a (.c (.pb r c)):=by rw[Bg hS hx (by simp [cC,hr])];simp only[cC,hr]
   obtain⟨ys,g1,g2⟩:=P9 hS hr;have hb:S.bcells r=some ys:=by simp [St.bcells,g1]
   split at h
   ·split at h
    ·rename_i l hl;obtain⟨e,he,h⟩:=Gs h;have hint:K7 (cs.map (·.2))=some l:=by
      unfold Zsk at hl;split at hl
      ·exact hl
      simp at hl
     have hi:=Znh (R:=X.roots) hint;have hc:(cs.map fun e=>cC X.roots e.2)[c]? = some (.lf (.int .i64 e)):=by
      have:(cs.map fun e=>cC X.roots e.2)=(cs.map (·.2)).map (cC X.roots):=by rw[Kqb];rfl
      rw[this,hi,Kba];have he':l[c]? = some e:=by simpa [idx] using he
      rw[he'];rfl
     obtain⟨z,z1,z2⟩:=Un (i:=c) g2 hc;refine⟨_,h,trivial,.a (.c z),z2,fun K hK=>?_⟩;simp only[ev,hxS];exact⟨z,by rw[hb];exact z1,hK⟩
    split at h
    ·rename_i y hy;obtain⟨z,z1,z2⟩:=Un (i:=c) (x:=cC X.roots y.2) g2 (by rw[Kba,hy];rfl);refine⟨_,h,(hX.box r s cs hr y (Kaa hy)).2,.a (.c z),z2,fun K hK=>?_⟩;simp only[ev,hxS];exact⟨z,by rw[hb];exact z1,hK⟩
    simp at h
   rename_i m;split at h
   ·rename_i hm;have hm:=Kea hm;refine⟨_,h, ?_,.a (.ag ((ys.drop c).take m)), ?_,fun K hK=>?_⟩
    ·intro y hy;obtain⟨e,he,rfl⟩:=Ky.1 hy;exact (hX.box r s cs hr e (Kkb (Kjb he))).2
    ·have:=Jz (n:=m) (Jg (n:=c) g2);simp only[cV,cA,WkV,WkA,Kqb];rw[<-Kfb,<-Keb]at this;exact this
    simp only[ev,hxS];have:=g2.length;simp only[Ko]at this;exact⟨ys,hb,by omega,hK⟩
   simp at h
  simp at h
 ·rename_i b o hx;have hxS:S.opd x=.a (.c (.lf (.pointer (some ⟨b,o,none⟩)))):=by rw[Bg hS hx (by simp [cC])];rfl
  split at h
  ·rename_i l hl;split at h
   ·obtain⟨y,hy,h⟩:=Gs h;refine Cw h trivial fun K hK=>?_;simp only[ev,hxS];have hy':l[o]? = some y:=by simpa [idx] using hy
    exact⟨.int .u8 y.toNat,by simp only[F0,hl,hy'],hK⟩
   rename_i m;obtain⟨cs,h,h1,vs,h2,h3⟩:=Zv2 (R:=X.roots) (nx:=X.next) (st:=X.stamp) hl o m _ h;refine⟨_,h,h1,.a (.ag (cs.map (cC X.roots))),Ab.refl WkC.refl _,fun K hK=>?_⟩;simp only[ev,hxS];exact⟨vs,h2,by rw[<-h3];exact hK⟩
  simp at h
 simp at h
theorem Yjm {x:Opd}{lo hi:Option Opd}{s:List UInt8}{xl xh:Option Int}(hx:S.opd x=.a (.c (.lf (.string ⟨s.toArray⟩)))) (hl:(lo=none/\xl=none)\/∃k w,xl=some w/\lo.map S.opd=some (.a (.c (.lf (.int k w))))) (hh:(hi=none/\xh=none)\/∃k w,xh=some w/\hi.map S.opd=some (.a (.c (.lf (.int k w)))))
  (hs:(lo.isSome||hi.isSome)=true) (hw:0<=xl.getD 0/\xl.getD 0<=xh.getD s.length/\xh.getD s.length<=s.length) {K:V->Prop} (hK:K (.a (.c (.lf (.string ⟨((s.drop (xl.getD 0).toNat).take ((xh.getD s.length).toNat-(xl.getD 0).toNat)).toArray⟩))))):ev S K (.ssl x lo hi):=by
 rcases hl with ⟨rfl,rfl⟩|⟨k1,w1,rfl,e1⟩<;>rcases hh with ⟨rfl,rfl⟩|⟨k2,w2,rfl,e2⟩
 ·simp at hs
 ·simp only[ev,hx,Kxb,e2,Kue,Kub,Ue]at hK hw ⊢;refine⟨⟨by omega,hw.2.2⟩, ?_⟩;rw[Zmb];simpa using hK
 ·simp only[ev,hx,Kxb,e1,Kue,Kub,Ue,Knb]at hK hw ⊢;refine⟨⟨hw.1,hw.2.1⟩, ?_⟩;rw[Zmb];exact hK
 simp only[ev,hx,e1,e2,Kub,Ue]at hK hw ⊢;refine⟨hw, ?_⟩;rw[Zmb];exact hK
theorem Zn3:∀l:List Int,Zam l=l.length
 | []=>rfl
 | _::l=>by simp only[Zam,Zn3 l,Kf]
theorem Zng {R:XRs}:∀{cs:List XC}{us:List Int}{ys:List C},K7 cs=some us->Ab WkC ys (cs.map (cC R))->ys=us.map (fun z=>C.lf (.int .i64 z))
 | [],us,ys,h,w=>by
  simp only[K7,Ka]at h;subst h;cases ys with
  | nil=>rfl
  | cons _ _=>exact w.elim
 | c::cs,us,ys,h,w=>by
  cases ys with
  | nil=>exact w.elim
  | cons y ys =>
   unfold K7 at h;split at h
   ·rename_i heq;cases heq
   ·rename_i heq;simp only[List.cons.injEq]at heq;obtain⟨rfl,rfl⟩:=heq;split at h
    ·rename_i m hm;simp only[Ka]at h;subst h;rw[Ke,<-Zng hm w.2];have:=w.1.eq (by simp [cC]);rw[this];rfl
    cases h
   cases h
theorem Zsg (hX:XOk X) (hS:SimX X S):∀(caps:List Opd) (cs:List XA),asX (caps.map X.opd)=some cs->∃ys,Lv (caps.map S.opd)=some ys/\Ab WkA ys (cs.map (cA X.roots))/\∀x∈cs,okA X.roots X.next X.stamp x
 | [],cs,h=>by
  simp only[Ktb,asX,Ka]at h;subst h;exact⟨[],rfl,trivial,by simp⟩
 | c::caps,cs,h=>by
  have h1:=G7 hS c;have h2:=Ff hX c;simp only[Ke]at h;cases hc:X.opd c with
  | a x =>
   rw[hc]at h h1 h2;simp only[asX]at h;split at h
   ·rename_i r hr;simp only[Ka]at h;subst h;obtain⟨ys,e1,e2,e3⟩:=Zsg hX hS caps r hr;cases hy:S.opd c with
    | a y =>
     rw[hy]at h1;refine⟨y::ys, ?_,⟨h1,e2⟩, ?_⟩
     ·simp only[Ke,hy,Lv,e1,Kha]
     intro z hz;rcases Kh.1 hz with rfl|hz
     ·exact h2
     exact e3 z hz
    | _=>rw[hy]at h1;exact h1.elim
   cases h
  | _=>rw[hc]at h;simp [asX]at h
theorem Zpd (hX:XOk X) (hS:SimX X S){i:I}{k:XV->Option β}(h:rdX X i k=some out):P5 X S i k out:=by
 cases i with
 | mv x=>exact⟨_,h,Ff hX x,_,G7 hS x,fun K hK=>hK⟩
 | pick c a b =>
  simp only[rdX]at h;split at h
  ·rename_i t hc;exact Yso hX hS hc h
  simp at h
 | load n x=>exact Yre hX hS h
 | nilc x =>
  have hok:=Ff hX x;simp only[rdX]at h;split at h
  ·rename_i r v p i c t e hx;rw[hx]at hok;split at h
   ·rename_i hv;refine Cw h hok fun K hK=>?_;have hxS:S.opd x=.a (.c (.pe r p i c)):=by rw[Bg hS hx (by simp [cC,hv])];simp only[cC,hv]
    simp only[cC,hv]at hK;simp only[ev,hxS];exact hK
   simp at h
  ·rename_i r c hx;rw[hx]at hok;split at h
   ·rename_i s cs hr;refine Cw h hok fun K hK=>?_;have hxS:S.opd x=.a (.c (.pb r c)):=by rw[Bg hS hx (by simp [cC,hr])];simp only[cC,hr]
    simp only[cC,hr]at hK;simp only[ev,hxS];exact hK
   simp at h
  simp at h
 | bin op x y =>
  simp only[rdX]at h;split at h
  ·rename_i u v hu hv;exact Yq8 hX hS hu hv h
  simp at h
 | beq neg x y =>
  simp only[rdX]at h;split at h
  ·rename_i u v hu hv;refine Cw h trivial fun K hK=>?_;simp only[ev,Bg hS hu (by simp [cC]),Bg hS hv (by simp [cC]),cC];cases neg<;>exact hK
  simp at h
 | aeq neg m x y =>
  simp only[rdX]at h;split at h
  ·rename_i cs ds hu hv;split at h
   ·rename_i us vs h1 h2;split at h
    ·rename_i hb;simp only[Kd]at hb;refine Cw h trivial fun K hK=>?_;have s1:=G7 hS x;have s2:=G7 hS y;rw[hu]at s1;rw[hv]at s2;cases e1:S.opd x with
     | a q1 =>
      rw[e1]at s1;cases e2:S.opd y with
      | a q2 =>
       rw[e2]at s2;cases q1 with
       | ag zs=>cases q2 with
        | ag ws =>
         simp only[ev,e1,e2];refine⟨us,vs,Zng h1 s1,Zng h2 s2,by rw[<-Zn3];exact Kq hb.1,by rw[<-Zn3];exact Kq hb.2, ?_⟩;cases neg<;>exact hK
        | c _=>exact s2.elim
       | c _=>exact s1.elim
      | _=>rw[e2]at s2;exact s2.elim
     | _=>rw[e1]at s1;exact s1.elim
    cases h
   cases h
  cases h
 | un op x =>
  simp only[rdX]at h;split at h
  ·rename_i u hu;refine Cw h trivial fun K hK=>?_;simp only[ev,Bg hS hu (by simp [cC]),cC];exact⟨_,rfl,hK⟩
  ·rename_i kd z hu;refine Cw h Zod fun K hK=>?_;simp only[ev,Bg hS hu (by simp [cC]),cC];rw[show cC X.roots (mkI kd (Zwo kd z))=.lf (.int kd (kd.wrap (0-z))) from Zof]at hK;exact⟨_,rfl,hK⟩
  simp at h
 | conv kd x =>
  simp only[rdX]at h;split at h
  ·rename_i z hz;obtain⟨k',hx⟩:=Ov hS hz;refine Cw h Zod fun K hK=>?_;rw[show cC X.roots (mkI kd (Ai kd z))=.lf (.int kd (kd.wrap z)) from Zof]at hK;simp only[ev,hx];exact hK
  simp at h
 | b2s x =>
  have hok:=Ff hX x;simp only[rdX]at h;split at h
  ·rename_i s hx;refine Cw h trivial fun K hK=>?_;simp only[ev,Bg hS hx (by simp [cC]),cC];exact hK
  ·rename_i c hc hx;rw[hx]at hok;obtain⟨t,ws,r,p,lo,l,h1,h2,h3,h4,h5,h6⟩:=Zrk hok h;split at h1
   ·refine Cw h1 trivial fun K hK=>?_;have hxS:=Bg hS hx (by rw[h3];simp);rw[h3]at hxS;simp only[ev,hxS,Ty.n];refine⟨_, ?_,hK⟩;rw[Ra,Wo hS h4];simp only[Kra,h5,if_true,h6];exact Zsp _
   simp at h1
  simp at h
 | slc z0 x lo hi =>
  simp only[rdX]at h;split at h
  ·rename_i c xl xh hx hl hh;exact Yvc hX hS hx hl hh h
  simp at h
 | ssl x lo hi =>
  simp only[rdX]at h;split at h
  ·rename_i l xl xh hx hl hh;split at h
   ·rename_i hs;obtain⟨h1,h2⟩:=Dt h;have h1:=Zch h1;have hs':(lo.isSome||hi.isSome)=true:=by
     rcases Wm hS hl with ⟨rfl,rfl⟩|⟨_,_,rfl,e⟩<;>rcases Wm hS hh with ⟨rfl,rfl⟩|⟨_,_,rfl,e'⟩
     ·simp at hs
     ·cases hi with
      | none=>simp at e'
      | some _=>rfl
     ·cases lo with
      | none=>simp at e
      | some _=>rfl
     cases lo with
     | none=>simp at e
     | some _=>rfl
    simp only[Ybv]at h2;refine Cw h2 trivial fun K hK=>?_;exact Yjm (Bg hS hx (by simp [cC])) (Wm hS hl) (Wm hS hh) hs' h1 hK
   simp at h
  simp at h
 | fld off n x =>
  have hok:=Ff hX x;have hsim:=G7 hS x;simp only[rdX]at h;split at h
  ·rename_i cs hx;rw[hx]at hok hsim;have:∃ys,S.opd x=.a (.ag ys)/\Ab WkC ys (cs.map (cC X.roots)):=by
    cases hq:S.opd x with
    | a z=>cases z with
     | ag ys=>rw[hq]at hsim;exact⟨ys,rfl,hsim⟩
     | c _=>rw[hq]at hsim;exact hsim.elim
    | _=>rw[hq]at hsim;exact hsim.elim
   obtain⟨ys,e1,e2⟩:=this;split at h
   ·split at h
    ·rename_i y hy;obtain⟨z,z1,z2⟩:=Un (i:=off) (x:=cC X.roots y) e2 (by rw[Kba,hy];rfl);refine⟨_,h,hok y (Kaa hy),.a (.c z),z2,fun K hK=>?_⟩;simp only[ev,e1];exact⟨z,z1,hK⟩
    simp at h
   rename_i m;split at h
   ·rename_i hm;have hm:=Kea hm;refine⟨_,h,fun c hc=>hok c (Kkb (Kjb hc)),.a (.ag ((ys.drop off).take m)), ?_,fun K hK=>?_⟩
    ·simp only[cV,cA,WkV,WkA,Keb,Kfb];exact Jz (Jg e2)
    simp only[ev,e1];have:=e2.length;simp only[Ko]at this;exact⟨by omega,hK⟩
   simp at h
  simp at h
 | fad off x =>
  have hok:=Ff hX x;simp only[rdX]at h;split at h
  ·rename_i r v p i c t e hx;rw[hx]at hok;split at h
   ·rename_i hv;refine Cw h hok fun K hK=>?_;have hxS:S.opd x=.a (.c (.pe r p i c)):=by rw[Bg hS hx (by simp [cC,hv])];simp only[cC,hv]
    simp only[cC,hv]at hK;simp only[ev,hxS];exact hK
   simp at h
  ·rename_i r c hx;rw[hx]at hok;split at h
   ·rename_i s cs hr;refine Cw h hok fun K hK=>?_;have hxS:S.opd x=.a (.c (.pb r c)):=by rw[Bg hS hx (by simp [cC,hr])];simp only[cC,hr]
    simp only[cC,hr]at hK;simp only[ev,hxS];exact hK
   simp at h
  ·rename_i b o hx;refine Cw h trivial fun K hK=>?_;have hxS:S.opd x=.a (.c (.lf (.pointer (some ⟨b,o,none⟩)))):=by rw[Bg hS hx (by simp [cC])];rfl
   simp only[ev,hxS];exact hK
  simp at h
 | iad sz x j =>
  simp only[rdX]at h;split at h
  ·rename_i c z hx hj;exact Yp4 hX hS hx hj h
  simp at h
 | iaa len sz x j =>
  have hok:=Ff hX x;simp only[rdX]at h;split at h
  ·rename_i r c z hx hj;rw[hx]at hok;obtain⟨kd,J⟩:=Ov hS hj;split at h
   ·rename_i s cs hr;obtain⟨h1,h⟩:=Dt h;obtain⟨h2,h⟩:=Dt h;simp only[iLe,iLt,decide_eq_true_eq,Kog]at h1 h2;refine Cw h hok fun K hK=>?_;have hxS:S.opd x=.a (.c (.pb r c)):=by rw[Bg hS hx (by simp [cC,hr])];simp only[cC,hr]
    simp only[cC,hr]at hK;simp only[ev,hxS,J];exact⟨⟨h1,h2⟩,hK⟩
   simp at h
  ·rename_i b o z hx hj;obtain⟨kd,J⟩:=Ov hS hj;obtain⟨h1,h⟩:=Dt h;obtain⟨h2,h⟩:=Dt h;simp only[iLe,iLt,decide_eq_true_eq,Kog]at h1 h2;refine Cw h trivial fun K hK=>?_;have hxS:S.opd x=.a (.c (.lf (.pointer (some ⟨b,o,none⟩)))):=by rw[Bg hS hx (by simp [cC])];rfl
   simp only[ev,hxS,J];exact⟨⟨h1,h2⟩,hK⟩
  simp at h
 | idx x j =>
  simp only[rdX]at h;split at h
  ·rename_i l z hx hj;obtain⟨kd,J⟩:=Ov hS hj;obtain⟨b,h1,h⟩:=Gs h;obtain⟨h0,h1⟩:=Wb h1;refine Cw h trivial fun K hK=>?_;simp only[ev,Bg hS hx (by simp [cC]),cC,J];exact⟨h0,b,by rw[Yvq];exact h1,hK⟩
  simp at h
 | ixa len n sz x j =>
  cases n with
  | some m=>simp [rdX]at h
  | none =>
   have hsim:=G7 hS x;simp only[rdX]at h;split at h
   ·rename_i cs z hx hj;rw[hx]at hsim;obtain⟨kd,J⟩:=Ov hS hj;split at h
    ·rename_i l hl hb;simp only[Kd]at hb;have hb1:=Kq hb.1;have hb2:=Kq hb.2;subst hb2;obtain⟨e,h1,h⟩:=Gs h;obtain⟨h0,h1⟩:=Wb h1;have:∃ys,S.opd x=.a (.ag ys)/\Ab WkC ys (cs.map (cC X.roots)):=by
      cases hq:S.opd x with
      | a z=>cases z with
       | ag ys=>rw[hq]at hsim;exact⟨ys,rfl,hsim⟩
       | c _=>rw[hq]at hsim;exact hsim.elim
      | _=>rw[hq]at hsim;exact hsim.elim
     obtain⟨ys,e1,e2⟩:=this;have hcs:=Znh (R:=X.roots) hl;have hlen:l.length=cs.length:=by have:=congrArg List.length hcs;simpa using this.symm
     have hlt:=(Kfa.1 h1).1;obtain⟨y,y1,y2⟩:=Un (i:=z.toNat) (x:=C.lf (.int .i64 e)) e2 (by rw[hcs,Kba,h1];rfl);have y3:=y2.eq (by simp);subst y3;refine Cw h trivial fun K hK=>?_;simp only[ev,e1,J];exact⟨⟨h0,by omega⟩,_,by rw[Khd];exact y1,hK⟩
    simp at h
   simp at h
 | ext n x =>
  have hok:=Ff hX x;have hsim:=G7 hS x;simp only[rdX]at h;split at h
  ·rename_i xs hx;rw[hx]at hok hsim;split at h
   ·rename_i y hy;have:∃ys,S.opd x=.tp ys/\Ab WkA ys (xs.map (cA X.roots)):=by
     cases hq:S.opd x with
     | tp ys=>rw[hq]at hsim;exact⟨ys,rfl,hsim⟩
     | _=>rw[hq]at hsim;exact hsim.elim
    obtain⟨ys,e1,e2⟩:=this;obtain⟨z,z1,z2⟩:=Zrm (i:=n) (x:=cA X.roots y) e2 (by rw[Kba,hy];rfl);refine⟨_,h,hok y (Kaa hy),.a z,z2,fun K hK=>?_⟩;simp only[ev,e1];exact⟨z,z1,hK⟩
   simp at h
  simp at h
 | len x =>
  simp only[rdX]at h;split at h
  ·rename_i c hx;exact Yrc hX hS hx h
  simp at h
 | sid x =>
  simp only[rdX]at h;split at h
  ·rename_i l hx;refine Cw h trivial fun K hK=>?_;simp only[ev,Bg hS hx (by simp [cC]),cC];exact hK
  simp at h
 | sln x =>
  simp only[rdX]at h;split at h
  ·rename_i l hx;refine Cw h trivial fun K hK=>?_;simp only[ev,Bg hS hx (by simp [cC]),cC];exact hK
  simp at h
 | build zero parts =>
  simp only[rdX]at h;split at h
  ·rename_i hz;split at h
   ·rename_i cs hf;obtain⟨zs,e1,e2,e3⟩:=Zmd hX hS parts _ zero cs (Zav X.roots hz) (by
     intro c hc;obtain⟨c',_,rfl⟩:=Ky.1 hc;exact Zau _ _ _ c') hf
    refine⟨_,h,e3,.a (.ag zs),e2,fun K hK=>?_⟩;simp only[ev];exact⟨zs,e1,hK⟩
   simp at h
  simp at h
 | mkf f caps =>
  simp only[rdX]at h;split at h
  ·rename_i cs hq;obtain⟨ys,e1,e2,e3⟩:=Zsg hX hS caps cs hq;exact⟨_,h,e3,.fn f ys,⟨rfl,e2⟩,fun K hK=>⟨ys,e1,hK⟩⟩
  cases h
end
end Go.Vs
namespace Go.Vs
variable [Glb]
def XSt.put (X:XSt) (d:Option Nat) (v:XV):XSt:=match d with
 | some d=>⟨(d,X.stamp,v)::X.env,X.roots,X.next,X.stamp+1,X.fix⟩
 | none=>X
def XSt.newR (X:XSt) (x:XR):XSt:=⟨X.env,(X.next,X.stamp,x)::X.roots,X.next+1,X.stamp+1,X.fix⟩
def XSt.setR (X:XSt) (r:Nat) (x:XR):XSt:=⟨X.env,(r,X.stamp,x)::X.roots,X.next,X.stamp+1,X.fix⟩
def XSt.delRs (X:XSt):List Nat->XSt
 | []=>X
 | r::l=>(X.setR r .gone).delRs l
theorem Jr {X:XSt}(h:XOk X){d:Option Nat}{v:XV}(hv:okV X.roots X.next X.stamp v):XOk (X.put d v)/\Ext X (X.put d v):=by
 cases d with
 | none=>exact⟨h,Ext.refl X⟩
 | some d =>
  have same:∀r s x,lk X.roots r=some (s,x)->s<X.stamp->lk X.roots r=some (s,x):=fun _ _ _ h _=>h;refine⟨⟨fun r s x hx=>⟨(h.ids r s x hx).1,Kpb (h.ids r s x hx).2⟩, ?_, ?_,h.fixle⟩,⟨Kc _,Kcc _,rfl,same, ?_,fun r s cs hl c e hc _=>⟨s,cs,hl,hc⟩⟩⟩
  ·intro t s w hl;simp only[XSt.put]at hl;rw[Bd]at hl;split at hl
   ·simp only[Ka,Kb]at hl;obtain⟨rfl,rfl⟩:=hl;exact⟨Kqa _,okV.ext (Kc _) (Kcc _) same hv⟩
   obtain⟨a,b⟩:=h.env t s w hl;exact⟨Kpb a,okV.ext (Kc _) (Kcc _) same b⟩
  ·intro r s cs hl e he;obtain⟨a,b⟩:=h.box r s cs hl e he;exact⟨Kpb a,okC.ext (Kc _) (Kcc _) same b⟩
  intro t s w hl hs;simp only[XSt.put]at hl;rw[Bd]at hl;split at hl
  ·simp only[Ka,Kb]at hl;omega
  exact hl
theorem Mt {X:XSt}(h:XOk X){r nx:Nat}{x:XR}(hn:X.next<=nx) (hr:r<nx)
  (hb:∀cs,x=.bx cs->∀(c:Nat) (e:Nat×XC),cs[c]? = some e->(e.1=X.stamp\/∃s0 cs0,lk X.roots r=some (s0,.bx cs0)/\cs0[c]? = some e)/\okC X.roots X.next X.stamp e.2) :
  XOk ⟨X.env,(r,X.stamp,x)::X.roots,nx,X.stamp+1,X.fix⟩/\Ext X ⟨X.env,(r,X.stamp,x)::X.roots,nx,X.stamp+1,X.fix⟩:=by
 have old:∀q s y,lk ((r,X.stamp,x)::X.roots) q=some (s,y)->s<X.stamp->lk X.roots q=some (s,y):=by
  intro q s y hl hs;rw[Bd]at hl;split at hl
  ·simp only[Ka,Kb]at hl;omega
  exact hl
 have le:=Kcc X.stamp;refine⟨⟨?_, ?_, ?_,Kla h.fixle hn⟩,⟨hn,le,rfl,old,fun _ _ _ hl _=>hl, ?_⟩⟩
 ·intro q s y hl;rw[Bd]at hl;split at hl
  ·rename_i e;simp only[Ka,Kb]at hl;simp only at e;obtain⟨rfl,_⟩:=hl;exact⟨by show q<nx;omega,Kqa _⟩
  obtain⟨a,b⟩:=h.ids q s y hl;exact⟨by show q<nx;omega,Kpb b⟩
 ·intro t s w hl;obtain⟨a,b⟩:=h.env t s w hl;exact⟨Kpb a,okV.ext hn le old b⟩
 ·intro q s cs hl e he;rw[Bd]at hl;split at hl
  ·simp only[Ka,Kb]at hl;obtain⟨c,hc,he'⟩:=Krc he;obtain⟨a,b⟩:=hb cs hl.2 c e (by rw[Ku hc,he']);refine⟨?_,okC.ext hn le old b⟩;rcases a with a|⟨s0,cs0,a1,a2⟩
   ·rw[a];exact Kqa _
   exact Kpb (h.box _ _ _ a1 e (Kaa a2)).1
  obtain⟨a,b⟩:=h.box q s cs hl e he;exact⟨Kpb a,okC.ext hn le old b⟩
 intro q s cs hl c e hc hs;rw[Bd]at hl;split at hl
 ·rename_i eq;simp only at eq;subst eq;simp only[Ka,Kb]at hl;rcases (hb cs hl.2 c e hc).1 with a|a
  ·omega
  exact a
 exact⟨s,cs,hl,hc⟩
theorem Znr:∀ks:List (Nat×Af),A7 ks .un=.un
 | []=>rfl
 | k::ks=>Znr ks
theorem Zxd (v:Value):∀ks:List (Nat×Af),A7 ks (.lf v)=.lf v
 | []=>rfl
 | k::ks=>Zxd v ks
theorem Zro {κ:C->C}(hκ:κ .un=.un){y x x':C}(h:WkC y x) (hx:x'=.un\/x'=κ x):WkC (κ y) x':=by
 rcases hx with hx|hx
 ·exact .inr hx
 rcases h with rfl|rfl
 ·exact .inl hx
 exact .inr (by rw[hx,hκ])
section
variable {X X':XSt} {S:St} {ks:List (Nat×Af)} {roots:List (Nat×Root)}
section
variable {κ:C->C} {R R':XRs} {nx st:Nat}
theorem Zi1 (hκ:κ .un=.un) (hc:∀c,okC R nx st c->cC R' c=.un\/cC R' c=κ (cC R c)):∀{ys:List C}{cs:List XC},(∀c∈cs,okC R nx st c)->Ab WkC ys (cs.map (cC R))->Ab WkC (ys.map κ) (cs.map (cC R'))
 | [],[],_,_=>trivial
 | y::ys,c::cs,ho,h=>⟨Zro hκ h.1 (hc c (ho c Kp)),Zi1 hκ hc (fun c hc=>ho c (Kj _ hc)) h.2⟩
 | [],_::_,_,h=>h.elim
 | _::_,[],_,h=>h.elim
theorem Ydr (hκ:κ .un=.un) (hc:∀c,okC R nx st c->cC R' c=.un\/cC R' c=κ (cC R c)){y:A}{x:XA}(ho:okA R nx st x) (h:WkA y (cA R x)):WkA (y.map κ) (cA R' x):=by
 cases x with
 | c x=>cases y with
  | c y=>exact Zro hκ h (hc x ho)
  | ag _=>exact h.elim
 | ag xs=>cases y with
  | c y=>exact h.elim
  | ag ys=>exact Zi1 hκ hc ho h
theorem Zrn (hκ:κ .un=.un) (hc:∀c,okC R nx st c->cC R' c=.un\/cC R' c=κ (cC R c)):∀{ys:List A}{xs:List XA},(∀x∈xs,okA R nx st x)->Ab WkA ys (xs.map (cA R))->Ab WkA (ys.map (A.map κ)) (xs.map (cA R'))
 | [],[],_,_=>trivial
 | y::ys,c::cs,ho,h=>⟨Ydr hκ hc (ho c Kp) h.1,Zrn hκ hc (fun c hc=>ho c (Kj _ hc)) h.2⟩
 | [],_::_,_,h=>h.elim
 | _::_,[],_,h=>h.elim
theorem Ydt (hκ:κ .un=.un) (hc:∀c,okC R nx st c->cC R' c=.un\/cC R' c=κ (cC R c)){y:V}{x:XV}(ho:okV R nx st x) (h:WkV y (cV R x)):WkV (y.map κ) (cV R' x):=by
 cases x with
 | un=>cases y<;>trivial
 | a x=>cases y with
  | a y=>exact Ydr hκ hc ho h
  | _=>exact h.elim
 | tp xs=>cases y with
  | tp ys=>exact Zrn hκ hc ho h
  | _=>exact h.elim
 | fn f xs=>cases y with
  | fn g cs =>
   obtain⟨rfl,h⟩:=h;exact⟨rfl,Zrn hκ hc ho h⟩
  | _=>exact h.elim
 | sb r n =>
  simp only[cV];split
  ·rename_i s cs hl;have h1:cC R' (.pb r 0)=.pb r 0:=by simp only[cC,hl]
   rcases hc (.pb r 0) ho with h2|h2
   ·rw[h1]at h2;simp at h2
   rw[h1]at h2;have h3:cC R (.pb r 0)=.pb r 0:=by
    simp only[cC]at h2 ⊢;split at h2
    ·rfl
    rw[hκ]at h2;simp at h2
   have h4:cV R (.sb r n)=.sb r n:=by
    simp only[cC]at h3;simp only[cV];split at h3
    ·rfl
    simp at h3
   rw[h4]at h;rw[h3]at h2;cases y with
   | sb r' n' =>
    obtain⟨rfl,rfl⟩:=h;simp only[V.map,<-h2];exact⟨rfl,rfl⟩
   | _=>exact h.elim
  cases y<;>trivial
end
theorem Xt {R R':XRs}{nx st:Nat}(hc:∀c,okC R nx st c->cC R' c=.un\/cC R' c=A7 ks (cC R c)){ys:List C}{cs:List XC}(ho:∀c∈cs,okC R nx st c) (h:Ab WkC ys (cs.map (cC R))):Ab WkC (ys.map (A7 ks)) (cs.map (cC R')):=Zi1 (Znr ks) hc ho h
theorem Yds {R R':XRs}{nx st:Nat}(hc:∀c,okC R nx st c->cC R' c=.un\/cC R' c=A7 ks (cC R c)){y:V}{x:XV}(ho:okV R nx st x) (h:WkV y (cV R x)):WkV (y.map (A7 ks)) (cV R' x):=Ydt (Znr ks) hc ho h
theorem Pj (hX:XOk X) (hS:SimX X S) (he:X'.env=X.env) (hf:X'.fix=X.fix) (hc:∀c,okC X.roots X.next X.stamp c->cC X'.roots c=.un\/cC X'.roots c=A7 ks (cC X.roots c))
  (hr:∀r s x,lk X'.roots r=some (s,x)->(lk X.roots r=some (s,x)/\get roots r=(get S.roots r).map (Root.map (A7 ks)))\/∀y,cRt X'.roots x=some y->∃y',get roots r=some y'/\WkR y' y) :
  SimX X' ⟨C0 ks S.env,roots,X'.next,S.fix⟩:=by
 refine⟨rfl,by rw[hf];exact hS.fix, ?_, ?_⟩
 ·intro t s v hl;rw[he]at hl;rcases hS.env t s v hl with h|⟨y,h1,h2⟩
  ·exact .inl h
  exact .inr ⟨_,by rw[V2,h1];rfl,Yds hc (hX.env t s v hl).2 h2⟩
 intro r s x hl y hy;rcases hr r s x hl with ⟨h1,h2⟩|h
 ·cases x with
  | tr t xs =>
   obtain⟨y',a,b⟩:=hS.roots r s _ h1 _ rfl;simp only[cRt,Ka]at hy;subst hy;cases y' with
   | tr _ _=>exact⟨_,by rw[h2,a];rfl,b⟩
   | _=>exact b.elim
  | im t xs =>
   obtain⟨y',a,b⟩:=hS.roots r s _ h1 _ rfl;simp only[cRt,Ka]at hy;subst hy;cases y' with
   | im _ _=>exact⟨_,by rw[h2,a];rfl,b⟩
   | _=>exact b.elim
  | bx cs =>
   obtain⟨y',a,b⟩:=hS.roots r s _ h1 _ rfl;simp only[cRt,Ka]at hy;subst hy;cases y' with
   | bx ys =>
    refine⟨_,by rw[h2,a];rfl, ?_⟩;have:cs.map (fun e=>cC X'.roots e.2)=(cs.map (·.2)).map (cC X'.roots):=by simp
    rw[this];refine Xt hc ?_ ?_
    ·intro c hc;obtain⟨e,he,rfl⟩:=Ky.1 hc;exact (hX.box r s cs h1 e he).2
    rw[Kqb];exact b
   | _=>exact b.elim
  | gone=>simp [cRt]at hy
 exact h y hy
theorem Ytd (x:Root):Root.map (A7 []) x=x:=by
 have:A7 []=fun c=>c:=by funext c;rfl
 rw[this,Root.map_id]
theorem L9 (x:Option Root):x.map (Root.map (A7 []))=x:=by cases x<;>simp [Ytd]
theorem Zsr {R:XRs}{nx st r:Nat}{x:XR}(hx:nx<=r\/x=.gone\/(∃cs cs0 s,x=.bx cs/\lk R r=some (s,.bx cs0))\/∃t t0 xs xs0 s,x=.tr t xs/\lk R r=some (s,.tr t0 xs0)/\t.n=t0.n/\xs.length=xs0.length){c:XC}(ho:okC R nx st c):cC ((r,st,x)::R) c=.un\/cC ((r,st,x)::R) c=cC R c:=by
 have hne:∀{q:Nat},r≠q->lk ((r,st,x)::R) q=lk R q:=fun h=>by rw[Bd,if_neg h]
 have heq:lk ((r,st,x)::R) r=some (st,x):=by rw[Bd,if_pos rfl]
 cases c with
 | rw q =>
  by_cases h:r=q
  ·subst h;rcases hx with h|rfl|⟨cs,cs0,s0,rfl,h0⟩|⟨t,t0,xs,xs0,s,rfl,h1,h3,h2⟩
   ·simp only[okC]at ho;omega
   ·left;simp only[cC,heq]
   ·left;simp only[cC,heq]
   right;simp only[cC,heq,h1,h2,h3]
  right;simp only[cC,hne h]
 | rv q lo n =>
  by_cases h:r=q
  ·subst h;rcases hx with h|rfl|⟨cs,cs0,s0,rfl,h0⟩|⟨t,t0,xs,xs0,s,rfl,h1,h3,h2⟩
   ·simp only[okC]at ho;omega
   ·left;simp only[cC,heq]
   ·left;simp only[cC,heq]
   right;simp only[cC,heq,h1,h3]
  right;simp only[cC,hne h]
 | rf q v p lo t ws =>
  by_cases h:r=q
  ·subst h;left;have:Cn ((r,st,x)::R) r v=false:=by
    simp only[Cn,heq];cases hb:Nat.beq st v with
    | false=>rfl
    | true=>have:=Kq hb;have:=ho.2.1;omega
   simp only[cC,this]
  right;simp only[cC,Cn,hne h]
 | pe q v p i c t y =>
  by_cases h:r=q
  ·subst h;left;have:Cn ((r,st,x)::R) r v=false:=by
    simp only[Cn,heq];cases hb:Nat.beq st v with
    | false=>rfl
    | true=>have:=Kq hb;have:=ho.2.1;omega
   simp only[cC,this]
  right;simp only[cC,Cn,hne h]
 | pb q c =>
  by_cases h:r=q
  ·subst h;rcases hx with h|rfl|⟨cs,cs0,s0,rfl,h0⟩|⟨t,t0,xs,xs0,s,rfl,h1,h3,h2⟩
   ·simp only[okC]at ho;omega
   ·left;simp only[cC,heq]
   ·right;simp only[cC,heq,h0]
   left;simp only[cC,heq]
  right;simp only[cC,hne h]
 | _=>right;rfl
theorem Lu {R:XRs}{nx st r:Nat}{x:XR}(hx:nx<=r\/x=.gone\/(∃cs cs0 s,x=.bx cs/\lk R r=some (s,.bx cs0))\/∃t xs xs0 s,x=.tr t xs/\lk R r=some (s,.tr t xs0)/\xs.length=xs0.length){c:XC}(ho:okC R nx st c):cC ((r,st,x)::R) c=.un\/cC ((r,st,x)::R) c=cC R c :=
 Zsr (hx.imp id fun h=>h.imp id fun h=>h.imp id fun ⟨t,xs,xs0,s,a,b,c⟩=>⟨t,t,xs,xs0,s,a,b,rfl,c⟩) ho
end
end Go.Vs
namespace Go.Vs
variable [Glb]
def Tu (lo n:Nat):Bool:=decide (lo=0\/0<n)
def Qa {β:Type}(t t':Ty) (ws:List t.den) (f:List t'.den->Option β):Option β:=if h:t=t' then f (h ▸ ws) else none
def cv:(t t':Ty)->t.den->Option t'.den
 | .I k,.I k',z=>match kEq k k' with
  | true=>some z
  | false=>none
 | .Y,.Y,b=>some b
 | .B,.B,x=>some x
 | .S,.S,l=>some l
 | .L a,.L b,xs=>if h:a=b then some (h ▸ xs) else none
 | .H a,.H b,xs=>if h:a=b then some (h ▸ xs) else none
 | .L a,.H b,xs=>if h:a=b then some (some (h ▸ xs)) else none
 | .H a,.L b,o=>match o with
  | some xs=>if h:a=b then some (h ▸ xs) else none
  | none=>none
 | .P a b,.P c d,x=>match cv a c x.1,cv b d x.2 with
  | some y,some z=>some (y,z)
  | _,_=>none
 | _,_,_=>none
def cvL (t t':Ty):List t.den->Option (List t'.den)
 | []=>some []
 | x::l=>match cv t t' x,cvL t t' l with
  | some y,some m=>some (y::m)
  | _,_=>none
def Si {β:Type}(t t':Ty) (ws:List t.den) (f:List t'.den->Option β):Option β:=if h:t=t' then f (h ▸ ws) else match Nat.beq t.n t'.n with
 | true=>bnd (cvL t t' ws) f
 | false=>none
theorem Yf4:∀(t t':Ty) (x:t.den) (y:t'.den),cv t t' x=some y->t.n=t'.n/\Ae t x=Ae t' y:=by
 intro t
 induction t with
 | I k=>intro t' x y h;cases t'<;>simp only[cv,reduceCtorEq]at h;split at h<;>simp at h;rename_i hk;simp only[kEq,decide_eq_true_eq]at hk;subst hk;subst h;exact⟨rfl,rfl⟩
 | Y=>intro t' x y h;cases t'<;>simp only[cv,reduceCtorEq,Ka]at h;subst h;exact⟨rfl,rfl⟩
 | B=>intro t' x y h;cases t'<;>simp only[cv,reduceCtorEq,Ka]at h;subst h;exact⟨rfl,rfl⟩
 | S=>intro t' x y h;cases t'<;>simp only[cv,reduceCtorEq,Ka]at h;subst h;exact⟨rfl,rfl⟩
 | L a _ =>
  intro t' x y h;cases t' with
  | L b=>simp only[cv]at h;split at h<;>simp at h;rename_i e;subst e;subst h;exact⟨rfl,rfl⟩
  | H b=>simp only[cv]at h;split at h<;>simp at h;rename_i e;subst e;subst h;exact⟨rfl,rfl⟩
  | _=>simp [cv]at h
 | H a _ =>
  intro t' x y h;cases t' with
  | L b =>
   cases x with
   | none=>simp [cv]at h
   | some x=>simp only[cv]at h;split at h<;>simp at h;rename_i e;subst e;subst h;exact⟨rfl,rfl⟩
  | H b=>simp only[cv]at h;split at h<;>simp at h;rename_i e;subst e;subst h;exact⟨rfl,rfl⟩
  | _=>simp [cv]at h
 | P a b ha hb =>
  intro t' x y h;cases t' with
  | P c d =>
   simp only[cv]at h;split at h
   ·rename_i u v h1 h2;simp only[Ka]at h;subst h;obtain⟨a1,a2⟩:=ha _ _ _ h1;obtain⟨b1,b2⟩:=hb _ _ _ h2;exact⟨by simp only[Ty.n,a1,b1],by simp only[Ae,a2,b2]⟩
   simp at h
  | _=>simp [cv]at h
theorem Ztp {t t':Ty}:∀{xs:List t.den}{ys:List t'.den},cvL t t' xs=some ys->xs.map (Ae t)=ys.map (Ae t')/\ys.length=xs.length/\(t.n=t'.n\/xs=[])
 | [],ys,h=>by simp only[cvL,Ka]at h;subst h;exact⟨rfl,rfl,.inr rfl⟩
 | x::xs,ys,h=>by
  simp only[cvL]at h;split at h
  ·rename_i y m h1 h2;simp only[Ka]at h;subst h;obtain⟨a1,a2⟩:=Yf4 _ _ _ _ h1;obtain⟨b1,b2,_⟩:=Ztp h2;exact⟨by simp only[Ke,a2,b1],by simp [b2],.inl a1⟩
  simp at h
def Zid {β:Type}(R:XRs) (t:Ty) (c:XC) (f:List t.den->Option β):Option β:=match c with
 | .nl n=>match Nat.beq n t.n with
  | true=>f []
  | false=>none
 | .rw r=>Pv R (.rw r) fun t' ws=>Si t' t ws f
 | .rv r lo n=>chk (Tu lo n) (Pv R (.rv r lo n) fun t' ws=>Si t' t ws f)
 | .rf r v p lo t' ws=>chk (Tu lo ws.length) (Pv R (.rf r v p lo t' ws) fun t' ws=>Si t' t ws f)
 | _=>none
def Er {β:Type}(R:XRs):(t:Ty)->List XC->(t.den->List XC->Option β)->Option β
 | .I k,c::cs,f=>match toI c with
  | some (k',z)=>match kEq k k' with
   | true=>f z cs
   | false=>none
  | none=>none
 | .Y,c::cs,f=>match c with
  | .y b=>f b cs
  | _=>none
 | .B,c::cs,f=>match c with
  | .b x=>f x cs
  | _=>none
 | .S,c::cs,f=>match c with
  | .s l=>f l cs
  | _=>none
 | .L t,c::cs,f=>Zid R t c fun ws=>f ws cs
 | .H t,c::cs,f=>Zid R t c fun ws=>f (some ws) cs
 | .P a b,cs,f=>Er R a cs fun x cs=>Er R b cs fun y cs=>f (x,y) cs
 | _,[],_=>none
def Tx {β:Type}(R:XRs) (t:Ty):Nat->List XC->(List t.den->Option β)->Option β
 | 0,cs,f=>match cs with
  | []=>f []
  | _=>none
 | n+1,cs,f=>Er R t cs fun x cs=>Tx R t n cs fun xs=>f (x::xs)
def CD (R:XRs) (c:XC) (d:D):Prop :=
 (∃v,cC R c=.lf v/\d=.lf v)\/(∃n,c=.nl n/\d=.sl n []) \/
 ∃(t:Ty) (ws:List t.den) (r:Nat) (p:Af) (lo:Nat) (l:List (List D)),cC R c=.rf r p t.n lo ws.length/\Ct R r p=some (t.n,l)/\lo+ws.length<=l.length/\(l.drop lo).take ws.length=ws.map (Ae t)/\d=.sl t.n (ws.map (Ae t))/\(lo=0\/0<ws.length)
theorem CD.ne {R:XRs}{c:XC}{d:D}(h:CD R c d):cC R c≠.un:=by
 rcases h with ⟨v,h,_⟩|⟨n,h,_⟩|⟨t,ws,r,p,lo,l,h,_⟩
 ·rw[h];simp
 ·rw[h];simp [cC]
 rw[h];simp
theorem Vh {β:Type}{t t':Ty}{ws:List t.den}{f:List t'.den->Option β}{out:β}(h:Qa t t' ws f=some out):∃ws':List t'.den,f ws'=some out/\t=t'/\ws.map (Ae t)=ws'.map (Ae t')/\ws'.length=ws.length:=by
 unfold Qa at h;split at h
 ·rename_i e;subst e;exact⟨ws,h,rfl,rfl,rfl⟩
 simp at h
theorem Zs1 {β:Type}{t t':Ty}{ws:List t.den}{f:List t'.den->Option β}{out:β}(h:Si t t' ws f=some out):∃ws':List t'.den,f ws'=some out/\t.n=t'.n/\ws.map (Ae t)=ws'.map (Ae t')/\ws'.length=ws.length:=by
 unfold Si at h;split at h
 ·rename_i e;subst e;exact⟨ws,h,rfl,rfl,rfl⟩
 split at h
 ·rename_i hn;obtain⟨ws',h1,h⟩:=Gs h;obtain⟨a,b,_⟩:=Ztp h1;exact⟨ws',h,Kq hn,a,b⟩
 simp at h
theorem Ybt {β:Type}{R:XRs}{nx st:Nat}{t:Ty}{c:XC}{f:List t.den->Option β}{out:β}(ho:okC R nx st c) (h:Zid R t c f=some out):∃ws,f ws=some out/\CD R c (.sl t.n (ws.map (Ae t))):=by
 have win:∀{c:XC},okC R nx st c->Pv R c (fun t' ws=>Si t' t ws f)=some out->(∀r p s lo n,cC R c=.rf r p s lo n->lo=0\/0<n)->∃ws,f ws=some out/\CD R c (.sl t.n (ws.map (Ae t))):=by
  intro c ho h hp;obtain⟨t',ws,r,p,lo,l,h1,h2,h3,h4,h5,h6⟩:=Zrk ho h;obtain⟨ws',g1,g2,g3,g4⟩:=Zs1 h1;refine⟨ws',g1,.inr (.inr ⟨t,ws',r,p,lo,l,by rw[g4,<-g2];exact h3,by rw[<-g2];exact h4,by rw[g4];exact h5,by rw[g4,h6,g3],rfl,by rw[g4];exact hp _ _ _ _ _ h3⟩)⟩
 unfold Zid at h;split at h
 ·split at h
  ·rename_i n hn;have hn:=Kq hn;subst hn;exact⟨[],h,.inr (.inl ⟨_,rfl,rfl⟩)⟩
  simp at h
 ·rename_i r;refine win ho h ?_;intro r' p s lo n e;simp only[cC]at e;split at e
  ·simp only[C.rf.injEq]at e;exact .inl e.2.2.2.1.symm
  ·simp only[C.rf.injEq]at e;exact .inl e.2.2.2.1.symm
  simp at e
 ·rename_i r lo n;obtain⟨h1,h⟩:=Dt h;refine win ho h ?_;intro r' p s lo' n' e;simp only[Tu,decide_eq_true_eq]at h1;simp only[cC]at e;split at e
  ·simp only[C.rf.injEq]at e;obtain⟨_,_,_,rfl,rfl⟩:=e;exact h1
  ·simp only[C.rf.injEq]at e;obtain⟨_,_,_,rfl,rfl⟩:=e;exact h1
  simp at e
 ·rename_i r v p lo t' ws;obtain⟨h1,h⟩:=Dt h;refine win ho h ?_;intro r' p s lo' n' e;simp only[Tu,decide_eq_true_eq]at h1;simp only[cC]at e;split at e
  ·simp only[C.rf.injEq]at e;obtain⟨_,_,_,rfl,rfl⟩:=e;exact h1
  simp at e
 simp at h
theorem Ng {β:Type}{R:XRs}{nx st:Nat}:∀(t:Ty) (cs:List XC) (f:t.den->List XC->Option β) (out:β),(∀c∈cs,okC R nx st c)->Er R t cs f=some out ->
  ∃x cs0 rest,cs=cs0++rest/\f x rest=some out/\Ab (CD R) cs0 (Ae t x)
 | .I k,c::cs,f,out,ho,h=>by
  simp only[Er]at h;split at h
  ·rename_i k' z hz;split at h
   ·rename_i hk;simp only[kEq,decide_eq_true_eq]at hk;subst hk;exact⟨z,[c],cs,rfl,h,⟨.inl ⟨_,Nl hz,rfl⟩,trivial⟩⟩
   simp at h
  simp at h
 | .Y,c::cs,f,out,ho,h=>by
  simp only[Er]at h;split at h
  ·rename_i b;exact⟨b,[_],cs,rfl,h,⟨.inl ⟨_,rfl,rfl⟩,trivial⟩⟩
  simp at h
 | .B,c::cs,f,out,ho,h=>by
  simp only[Er]at h;split at h
  ·rename_i b;exact⟨b,[_],cs,rfl,h,⟨.inl ⟨_,rfl,rfl⟩,trivial⟩⟩
  simp at h
 | .S,c::cs,f,out,ho,h=>by
  simp only[Er]at h;split at h
  ·rename_i b;exact⟨b,[_],cs,rfl,h,⟨.inl ⟨_,rfl,rfl⟩,trivial⟩⟩
  simp at h
 | .L t,c::cs,f,out,ho,h=>by
  simp only[Er]at h;obtain⟨ws,h1,h2⟩:=Ybt (ho c Kp) h;exact⟨ws,[c],cs,rfl,h1,⟨h2,trivial⟩⟩
 | .H t,c::cs,f,out,ho,h=>by
  simp only[Er]at h;obtain⟨ws,h1,h2⟩:=Ybt (ho c Kp) h;exact⟨some ws,[c],cs,rfl,h1,⟨h2,trivial⟩⟩
 | .P a b,cs,f,out,ho,h=>by
  simp only[Er]at h;obtain⟨x,c0,c1,rfl,h1,h2⟩:=Ng a cs _ out ho h;obtain⟨y,d0,d1,rfl,h3,h4⟩:=Ng b c1 _ out (fun c hc=>ho c (Kic _ hc)) h1;exact⟨(x,y),c0++d0,d1,by simp,h3,Ab.append h2 h4⟩
 | .I _,[],_,_,_,h=>by simp [Er]at h
 | .Y,[],_,_,_,h=>by simp [Er]at h
 | .B,[],_,_,_,h=>by simp [Er]at h
 | .S,[],_,_,_,h=>by simp [Er]at h
 | .L _,[],_,_,_,h=>by simp [Er]at h
 | .H _,[],_,_,_,h=>by simp [Er]at h
theorem Zhi {β:Type}{R:XRs}{nx st:Nat}{t:Ty}:∀(n:Nat) (cs:List XC) (f:List t.den->Option β) (out:β),(∀c∈cs,okC R nx st c)->Tx R t n cs f=some out ->
  ∃xs,f xs=some out/\xs.length=n/\Ab (CD R) cs (xs.map (Ae t)).flatten
 | 0,cs,f,out,ho,h=>by
  simp only[Tx]at h;split at h
  ·exact⟨[],h,rfl,trivial⟩
  simp at h
 | n+1,cs,f,out,ho,h=>by
  simp only[Tx]at h;obtain⟨x,c0,c1,rfl,h1,h2⟩:=Ng t cs _ out ho h;obtain⟨xs,h3,h4,h5⟩:=Zhi n c1 _ out (fun c hc=>ho c (Kic _ hc)) h1;refine⟨x::xs,h3,by simp [h4], ?_⟩;simp only[Ke,Kfd];exact Ab.append h2 h5
theorem Lw {R:XRs}:∀{cs:List XC}{ds:List D}{ys:List C},Ab (CD R) cs ds->Ab WkC ys (cs.map (cC R))->ys=cs.map (cC R)
 | [],[],[],_,_=>rfl
 | c::cs,d::ds,y::ys,h,hw=>by
  simp only[Ke];rw[<-Lw h.2 hw.2,hw.1.eq h.1.ne]
 | [],_::_,_,h,_=>h.elim
 | _::_,[],_,h,_=>h.elim
 | [],[],_::_,_,h=>h.elim
 | _::_,_::_,[],_,h=>h.elim
def Ds (R:XRs) (c:XC):Option (Option Nat):=match c with
 | .nl _=>some none
 | .lf _=>some none
 | .i _ _=>some none
 | .y _=>some none
 | .b _=>some none
 | .s _=>some none
 | .rw r=>match lk R r with
  | some (_,.tr _ _)=>some (some r)
  | _=>none
 | .rv r lo _=>match lk R r with
  | some (_,.tr _ _)=>match lo with
   | 0=>some (some r)
   | _=>none
  | _=>none
 | _=>none
def Ed (R:XRs):List XC->Option (List Nat)
 | []=>some []
 | c::cs=>match Ds R c,Ed R cs with
  | some (some r),some l=>some (r::l)
  | some none,some l=>some l
  | _,_=>none
def M0 (r:Nat):List Nat->Bool
 | []=>false
 | x::l=>match Nat.beq x r with
  | true=>true
  | false=>M0 r l
def Nd:List Nat->Bool
 | []=>true
 | r::l=>match M0 r l with
  | true=>false
  | false=>Nd l
theorem Z4 {r:Nat}:∀{l:List Nat},M0 r l=true ↔ r∈l
 | []=>by simp [M0]
 | x::l=>by
  simp only[M0];split
  ·rename_i h;simp [Kq h]
  rename_i h;have:=Kte h;rw[Z4,Kh];exact⟨.inr,fun h=>h.resolve_left fun e=>this e.symm⟩
theorem Rb:∀{l:List Nat},Nd l=true->l.Nodup
 | [],_=>List.nodup_nil
 | r::l,h=>by
  simp only[Nd]at h;split at h
  ·simp at h
  rename_i hn;rw[Kta];exact⟨fun hm=>by rw[Z4.2 hm]at hn;simp at hn,Rb h⟩
theorem Ztm (roots:List (Nat×Root)) (r:Nat):Et roots r []=del roots r:=rfl
theorem Wv {X:XSt}{S:St}(hS:SimX X S){c:XC}{d:D}(h:CD X.roots c d){o:Option Nat}(ho:Ds X.roots c=some o){roots:List (Nat×Root)}(hr:∀r,o=some r->get roots r=get S.roots r) :
  Dh roots (cC X.roots c)=some (d,D4 roots o):=by
 have leaf:∀{v:Value},cC X.roots c=.lf v->o=none->Dh roots (cC X.roots c)=some (d,D4 roots o):=by
  intro v hv e;subst e;rcases h with ⟨v',h1,rfl⟩|⟨n,rfl,_⟩|⟨t,ws,r,p,lo,l,h1,_⟩
  ·rw[h1];rfl
  ·simp [cC]at hv
  rw[hv]at h1;simp at h1
 cases c with
 | nl n =>
  simp only[Ds,Ka]at ho;subst ho;rcases h with ⟨v,h1,_⟩|⟨m,h1,rfl⟩|⟨t,ws,r,p,lo,l,h1,_⟩
  ·simp [cC]at h1
  ·simp only[XC.nl.injEq]at h1;subst h1;rfl
  simp [cC]at h1
 | lf v=>simp only[Ds,Ka]at ho;exact leaf rfl ho.symm
 | i k z=>simp only[Ds,Ka]at ho;exact leaf rfl ho.symm
 | y b=>simp only[Ds,Ka]at ho;exact leaf rfl ho.symm
 | b x=>simp only[Ds,Ka]at ho;exact leaf rfl ho.symm
 | s l=>simp only[Ds,Ka]at ho;exact leaf rfl ho.symm
 | rw r =>
  simp only[Ds]at ho;split at ho
  ·rename_i s t xs hl;simp only[Ka]at ho;subst ho;obtain⟨y,a,b⟩:=hS.roots r s _ hl _ rfl;have hg:get roots r=some (.tr t.n (xs.map (Ae t))):=by
    rw[hr r rfl,a];cases y with
    | tr _ _=>obtain⟨rfl,rfl⟩:=b;rfl
    | _=>exact b.elim
   rcases h with ⟨v,h1,_⟩|⟨m,h1,_⟩|⟨t',ws,r',p,lo,l,h1,h2,h3,h4,rfl,_⟩
   ·simp [cC,hl]at h1
   ·simp at h1
   simp only[cC,hl,C.rf.injEq]at h1;obtain⟨rfl,rfl,e3,rfl,e5⟩:=h1;simp only[Ct,hl,Am,Ka,Kb]at h2;obtain⟨_,rfl⟩:=h2;simp only[cC,hl,Dh,hg,Am,Ko,Kc,and_self,if_true,Ztm,D4];rw[Kja,<-e5,Kib (by simp)]at h4;rw[Kib (by simp),<-h4,e3]
  simp at ho
 | rv r lo n =>
  simp only[Ds]at ho;split at ho
  ·rename_i s t xs hl;split at ho
   ·simp only[Ka]at ho;subst ho;obtain⟨y,a,b⟩:=hS.roots r s _ hl _ rfl;have hg:get roots r=some (.tr t.n (xs.map (Ae t))):=by
     rw[hr r rfl,a];cases y with
     | tr _ _=>obtain⟨rfl,rfl⟩:=b;rfl
     | _=>exact b.elim
    rcases h with ⟨v,h1,_⟩|⟨m,h1,_⟩|⟨t',ws,r',p,lo,l,h1,h2,h3,h4,rfl,_⟩
    ·simp [cC,hl]at h1
    ·simp at h1
    simp only[cC,hl,C.rf.injEq]at h1;obtain⟨rfl,rfl,e3,rfl,e5⟩:=h1;simp only[Ct,hl,Am,Ka,Kb]at h2;obtain⟨_,rfl⟩:=h2;simp only[Ko,Kr,<-e5]at h3;simp only[cC,hl,Dh,hg,Am,Ko,h3,and_self,if_true,Ztm,D4];rw[Kja,<-e5]at h4;rw[h4,e3]
   simp at ho
  simp at ho
 | un=>simp [Ds]at ho
 | rf r v p lo t ws=>simp [Ds]at ho
 | pe r v p i c t x=>simp [Ds]at ho
 | pb r c=>simp [Ds]at ho
theorem Xh {X:XSt}{S:St}(hS:SimX X S):∀(cs:List XC) (ds:List D) (ids:List Nat) (roots:List (Nat×Root)),Ab (CD X.roots) cs ds->Ed X.roots cs=some ids->ids.Nodup->(∀r∈ids,get roots r=get S.roots r) ->
  ∃rt,Cx roots (cs.map (cC X.roots))=some (ds,rt)/\∀r,get rt r=if r∈ids then none else get roots r
 | [],[],ids,roots,_,hi,_,_=>by
  simp only[Ed,Ka]at hi;subst hi;exact⟨roots,rfl,fun r=>by simp⟩
 | c::cs,d::ds,ids,roots,h,hi,hn,hr=>by
  simp only[Ed]at hi;split at hi
  ·rename_i r l h1 h2;simp only[Ka]at hi;subst hi;rw[Kta]at hn;have e:=Wv hS h.1 h1 (roots:=roots) (fun q hq=>by simp only[Ka]at hq;subst hq;exact hr _ Kp);obtain⟨rt,e1,e2⟩:=Xh hS cs ds l (del roots r) h.2 h2 hn.2 (fun q hq=>by
    rw[Hj,if_neg (fun e=>hn.1 (by rw[e];exact hq))];exact hr q (Kj _ hq))
   refine⟨rt, ?_,fun q=>?_⟩
   ·simp only[Ke,Cx,e,D4,e1]
   rw[e2 q,Hj];by_cases hq:q∈l
   ·simp [hq]
   by_cases he:r=q
   ·subst he;simp
   rw[if_neg hq,if_neg he,if_neg (by simp only[Kh,not_or];exact⟨fun e=>he e.symm,hq⟩)]
  ·rename_i l h1 h2;simp only[Ka]at hi;subst hi;have e:=Wv hS h.1 h1 (roots:=roots) (fun q hq=>by simp at hq);obtain⟨rt,e1,e2⟩:=Xh hS cs ds l roots h.2 h2 hn hr;exact⟨rt,by simp only[Ke,Cx,e,D4,e1],e2⟩
  simp at hi
 | [],_::_,_,_,h,_,_,_=>h.elim
 | _::_,[],_,_,h,_,_,_=>h.elim
theorem Zo:∀(l:List Nat) (X:XSt),(X.delRs l).env=X.env/\(X.delRs l).next=X.next/\(X.delRs l).fix=X.fix/\X.stamp<=(X.delRs l).stamp
 | [],X=>⟨rfl,rfl,rfl,Kc _⟩
 | r::l,X=>by
  obtain⟨a,b,c,d⟩:=Zo l (X.setR r .gone);exact⟨a,b,c,Kla (Kcc _) d⟩
theorem K1:∀(l:List Nat) (X:XSt) (r:Nat),(r∈l->∃s,lk (X.delRs l).roots r=some (s,.gone))/\(r ∉ l->lk (X.delRs l).roots r=lk X.roots r)
 | [],X,r=>⟨fun h=>by simp at h,fun _=>rfl⟩
 | q::l,X,r=>by
  obtain⟨a,b⟩:=K1 l (X.setR q .gone) r;refine⟨fun h=>?_,fun h=>?_⟩
  ·by_cases hl:r∈l
   ·exact a hl
   have:=(Kh.1 h).resolve_right hl;subst this;refine⟨X.stamp, ?_⟩;show lk ((X.setR r .gone).delRs l).roots r=_;rw[b hl];simp only[XSt.setR];rw[Bd,if_pos rfl]
  rw[Kh,not_or]at h;show lk ((X.setR q .gone).delRs l).roots r=_;rw[b h.2];simp only[XSt.setR];rw[Bd,if_neg (fun e=>h.1 e.symm)]
theorem Zv5 {X:XSt}{S:St}(hX:XOk X) (hS:SimX X S){r:Nat}(hr:r<X.next):XOk (X.setR r .gone)/\Ext X (X.setR r .gone)/\SimX (X.setR r .gone) S:=by
 obtain⟨a,b⟩:=Mt hX (x:=.gone) (Kc _) hr (fun cs h=>by simp at h);refine⟨a,b, ?_⟩;have:=Pj (X':=X.setR r .gone) (ks:=[]) (roots:=S.roots) hX hS rfl rfl (fun c hc=>Lu (.inr (.inl rfl)) hc) ?_
 ·have e:=hS.next;obtain⟨E,R,n,f⟩:=S;simp only at e;subst e;exact this
 intro q s x hl;simp only[XSt.setR]at hl;rw[Bd]at hl;split at hl
 ·simp only[Ka,Kb]at hl;obtain⟨_,rfl⟩:=hl;exact .inr fun y hy=>by simp [cRt]at hy
 exact .inl ⟨hl,by rw[L9]⟩
theorem Zp:∀(l:List Nat){X:XSt}{S:St},XOk X->SimX X S->(∀r∈l,r<X.next)->XOk (X.delRs l)/\Ext X (X.delRs l)/\SimX (X.delRs l) S
 | [],X,S,hX,hS,_=>⟨hX,Ext.refl X,hS⟩
 | r::l,X,S,hX,hS,hr=>by
  obtain⟨a,b,c⟩:=Zv5 hX hS (hr r Kp);obtain⟨a',b',c'⟩:=Zp l a c (fun q hq=>hr q (Kj _ hq));exact⟨a',b.trans b',c'⟩
theorem Tq {X:XSt}(hX:XOk X):∀{cs:List XC}{l:List Nat},Ed X.roots cs=some l->∀r∈l,r<X.next
 | [],l,h,r,hr=>by simp only[Ed,Ka]at h;subst h;simp at hr
 | c::cs,l,h,r,hr=>by
  simp only[Ed]at h;split at h
  ·rename_i q m h1 h2;simp only[Ka]at h;subst h;rcases Kh.1 hr with rfl|hr
   ·cases c with
    | rw q =>
     simp only[Ds]at h1;split at h1
     ·rename_i hl;simp only[Ka]at h1;subst h1;exact (hX.ids _ _ _ hl).1
     simp at h1
    | rv q lo n =>
     simp only[Ds]at h1;split at h1
     ·rename_i hl;split at h1
      ·simp only[Ka]at h1;subst h1;exact (hX.ids _ _ _ hl).1
      simp at h1
     simp at h1
    | _=>simp [Ds]at h1
   exact Tq hX h2 r hr
  ·rename_i m h1 h2;simp only[Ka]at h;subst h;exact Tq hX h2 r hr
  simp at h
theorem Xe {X:XSt}{E:List (Nat×V)}{R R':List (Nat×Root)}{n f:Nat}(hS:SimX X ⟨E,R,n,f⟩) (h:∀r s x,lk X.roots r=some (s,x)->x≠.gone->get R' r=get R r):SimX X ⟨E,R',n,f⟩:=by
 refine⟨hS.next,hS.fix,hS.env, ?_⟩;intro r s x hl y hy;obtain⟨y',a,b⟩:=hS.roots r s x hl y hy;exact⟨y',by rw[show get R' r=get R r from h r s x hl (fun e=>by subst e;simp [cRt]at hy)];exact a,b⟩
theorem Q8 {X:XSt}{E:List (Nat×V)}{R:List (Nat×Root)}{n f:Nat}(hX:XOk X) (hS:SimX X ⟨E,R,n,f⟩){x:XR}{y:Root}(hb:∀cs,x=.bx cs->∀e∈cs,e.1=X.stamp/\okC X.roots X.next X.stamp e.2) (hy:∃y',cRt X.roots x=some y'/\WkR y y') :
  XOk (X.newR x)/\Ext X (X.newR x)/\SimX (X.newR x) ⟨E,(X.next,y)::R,X.next+1,f⟩:=by
 obtain⟨a,b⟩:=Mt hX (x:=x) (Kcc _) (Kqa X.next) (fun cs h c e he=>by
  obtain⟨h1,h2⟩:=hb cs h e (Kaa he);exact⟨.inl h1,h2⟩)
 refine⟨a,b, ?_⟩;have key:∀c,okC X.roots X.next X.stamp c->cC ((X.next,X.stamp,x)::X.roots) c=.un\/cC ((X.next,X.stamp,x)::X.roots) c=cC X.roots c:=fun c hc=>Lu (.inl (Kc _)) hc;refine Pj (X':=X.newR x) (ks:=[]) (roots:=(X.next,y)::R) hX hS rfl rfl key ?_;intro q s z hl;simp only[XSt.newR]at hl;rw[Bd]at hl;split at hl
 ·rename_i e;simp only at e;subst e;simp only[Ka,Kb]at hl;obtain⟨_,rfl⟩:=hl;right;intro y1 hy1;obtain⟨y',c1,c2⟩:=hy;refine⟨y,by simp [get], ?_⟩;cases x with
  | tr t xs=>simp only[cRt,Ka]at c1 hy1;subst c1 hy1;exact c2
  | im t xs=>simp only[cRt,Ka]at c1 hy1;subst c1 hy1;exact c2
  | gone=>simp [cRt]at hy1
  | bx cs =>
   simp only[cRt,Ka]at c1 hy1;subst c1 hy1;cases y with
   | bx ys =>
    have h1:Ab WkC ys ((cs.map (·.2)).map (cC X.roots)):=by rw[Kqb];exact c2
    have h2:=Xt (ks:=[]) key (fun c hc=>by
     obtain⟨e,he,rfl⟩:=Ky.1 hc;exact (hb cs rfl e he).2) h1
    have h3:ys.map (A7 [])=ys:=by
     have:A7 []=fun c=>c:=by funext c;rfl
     rw[this];simp
    rw[h3,Kqb]at h2;exact h2
   | _=>exact c2.elim
 rename_i e;left;refine⟨hl, ?_⟩;rw[L9];simp only[get];rw[if_neg e]
theorem Zp6 {X:XSt}{E:List (Nat×V)}{R:List (Nat×Root)}{n f:Nat}(hX:XOk X) (hS:SimX X ⟨E,R,n,f⟩){r s:Nat}{t t0:Ty}{xs:List t.den}{xs0:List t0.den}(hl:lk X.roots r=some (s,.tr t0 xs0)) (hn:t.n=t0.n) (hlen:xs.length=xs0.length) :
  XOk (X.setR r (.tr t xs))/\Ext X (X.setR r (.tr t xs))/\SimX (X.setR r (.tr t xs)) ⟨E,put R r (.tr t.n (xs.map (Ae t))),n,f⟩:=by
 obtain⟨a,b⟩:=Mt hX (x:=.tr t xs) (Kc _) (hX.ids _ _ _ hl).1 (fun cs h=>by simp at h);refine⟨a,b, ?_⟩;have:=Pj (X':=X.setR r (.tr t xs)) (ks:=[]) (roots:=put R r (.tr t.n (xs.map (Ae t)))) hX hS rfl rfl (fun c hc=>Zsr (.inr (.inr (.inr ⟨t,t0,xs,xs0,s,rfl,hl,hn,hlen⟩))) hc) ?_
 ·have e:n=X.next:=hS.next;subst e;exact this
 intro q s z hq;simp only[XSt.setR]at hq;rw[Bd]at hq;split at hq
 ·rename_i e;simp only at e;subst e;simp only[Ka,Kb]at hq;obtain⟨_,rfl⟩:=hq;right;intro y hy;simp only[cRt,Ka]at hy;subst hy;exact⟨.tr t.n (xs.map (Ae t)),by rw[Ax,if_pos rfl],rfl,rfl⟩
 rename_i e;exact .inl ⟨hq,by rw[L9,Ax,if_neg e]⟩
abbrev Tk:=Nat×Option (Nat×Nat)
def tkX (R:XRs) (c:XC):Option (Option Tk):=match c with
 | .rf r v p lo _ _=>match p,lo with
  | [(i,c)],0=>match lk R r with
   | some (v',.tr _ _)=>match Nat.beq v' v with
    | true=>some (some (r,some (i,c)))
    | false=>none
   | _=>none
  | _,_=>none
 | c=>match Ds R c with
  | some (some r)=>some (some (r,none))
  | some none=>some none
  | none=>none
def Rl (R:XRs):List XC->Option (List Tk)
 | []=>some []
 | c::cs=>match tkX R c,Rl R cs with
  | some (some a),some l=>some (a::l)
  | some none,some l=>some l
  | _,_=>none
def Xl (a b:Tk):Bool:=match Nat.beq a.1 b.1 with
 | false=>true
 | true=>match a.2,b.2 with
  | some x,some y=>match Nat.beq x.2 y.2 with
   | true=>false
   | false=>true
  | _,_=>false
def Zb2 (a:Tk):List Tk->Bool
 | []=>true
 | b::l=>match Xl a b with
  | true=>Zb2 a l
  | false=>false
def Zb1:List Tk->Bool
 | []=>true
 | a::l=>match Zb2 a l with
  | true=>Zb1 l
  | false=>false
def Mf:(t:Ty)->Nat->t.den->Option t.den
 | .H _,c,_=>match c with
  | 0=>some none
  | _=>none
 | .P a b,c,x=>match Nat.ble a.n c with
  | false=>match Mf a c x.1 with
   | some y=>some (y,x.2)
   | none=>none
  | true=>match Mf b (c-a.n) x.2 with
   | some y=>some (x.1,y)
   | none=>none
 | _,_,_=>none
def Xm {β:Type}:List Tk->XSt->(XSt->Option β)->Option β
 | [],X,k=>k X
 | (r,none)::l,X,k=>Xm l (X.setR r .gone) k
 | (r,some (i,c))::l,X,k=>match lk X.roots r with
  | some (_,.tr T xs)=>bnd (idx xs (Int.ofNat i)) fun x=>match Mf T c x with
   | some x'=>Xm l (X.setR r (.tr T (Bq xs i x'))) k
   | none=>none
  | _=>none
theorem Zo8:∀(t:Ty) (c:Nat) (x y:t.den),Mf t c x=some y->c<t.n/\Ae t y=(Ae t x).set c .hole
 | .H a,c,x,y,h=>by
  unfold Mf at h;cases c with
  | zero=>simp only[Ka]at h;subst h;exact⟨Kqa _,rfl⟩
  | succ c=>simp at h
 | .P a b,c,x,y,h=>by
  unfold Mf at h;split at h
  ·rename_i hb;have hc:c<a.n:=Kqg fun hle=>by rw[Nat.ble_eq_true_of_le hle]at hb;simp at hb
   split at h
   ·rename_i z hz;simp only[Ka]at h;subst h;obtain⟨h1,h2⟩:=Zo8 a c x.1 z hz;refine⟨by simp only[Ty.n];omega, ?_⟩;simp only[Ae];rw[List.set_append_left _ _ (by rw[Bu];exact hc),h2]
   simp at h
  rename_i hb;have hc:=Kea hb;split at h
  ·rename_i z hz;simp only[Ka]at h;subst h;obtain⟨h1,h2⟩:=Zo8 b (c-a.n) x.2 z hz;refine⟨by simp only[Ty.n];omega, ?_⟩;simp only[Ae];rw[Ktf _ _ (by rw[Bu];exact hc),Bu,h2]
  simp at h
 | .I _,c,x,y,h=>by simp [Mf]at h
 | .Y,c,x,y,h=>by simp [Mf]at h
 | .B,c,x,y,h=>by simp [Mf]at h
 | .S,c,x,y,h=>by simp [Mf]at h
 | .L _,c,x,y,h=>by simp [Mf]at h
theorem Yu4 {es:List (List D)}{i c j d:Nat}{z:D}(h:i≠j\/c≠d) (sz:Nat):Am sz (Fi es i c z) [(j,d)]=Am sz es [(j,d)]:=by
 unfold Fi;cases he:es[i]? with
 | none=>rfl
 | some e =>
  simp only[Am];by_cases hij:i=j
  ·subst hij;have hlt:i<es.length:=(Kfa.1 he).1;rw[Kwc hlt,he];simp only[Kra];rw[Kgd (h.resolve_left (fun h=>h rfl))]
  rw[Kgd hij]
def J6 (S0 roots:List (Nat×Root)):Tk->Prop
 | (r,none)=>get roots r=get S0 r
 | (r,some (i,c))=>∃sz es es0,get S0 r=some (.tr sz es0)/\get roots r=some (.tr sz es)/\Am sz es [(i,c)]=Am sz es0 [(i,c)]
theorem Ycl {a b:Tk}(h:Xl a b=true):a.1≠b.1\/∃x y,a.2=some x/\b.2=some y/\x.2≠y.2:=by
 unfold Xl at h;split at h
 ·rename_i hb;exact .inl (Kte hb)
 split at h
 ·rename_i x y h1 h2;split at h
  ·simp at h
  rename_i hb;exact .inr ⟨x,y,h1,h2,Kte hb⟩
 simp at h
theorem Ycm {a:Tk}:∀{l:List Tk},Zb2 a l=true->∀b∈l,Xl a b=true
 | [],_,b,hb=>by simp at hb
 | c::l,h,b,hb=>by
  simp only[Zb2]at h;split at h
  ·rename_i hc;rcases Kh.1 hb with rfl|hb
   ·exact hc
   exact Ycm h b hb
  simp at h
theorem Ykh {S0 roots:List (Nat×Root)}{r i c sz:Nat}{es:List (List D)}{z:D}{b:Tk}(hg:get roots r=some (.tr sz es)) (h:Xl (r,some (i,c)) b=true) (hb:J6 S0 roots b):J6 S0 (put roots r (.tr sz (Fi es i c z))) b:=by
 obtain⟨q,o⟩:=b;rcases Ycl h with h'|⟨x,y,h1,h2,h3⟩
 ·have h':r≠q:=h';cases o with
  | none=>simp only[J6]at hb ⊢;rw[Ax,if_neg h'];exact hb
  | some jd=>obtain⟨j,d⟩:=jd;simp only[J6]at hb ⊢;rw[Ax,if_neg h'];exact hb
 simp only[Ka]at h1 h2;subst h1 h2;obtain⟨j,d⟩:=y;by_cases hrq:r=q
 ·subst hrq;obtain⟨sz',es',es0,b1,b2,b3⟩:=hb;rw[hg]at b2;simp only[Ka,Root.tr.injEq]at b2;obtain⟨rfl,rfl⟩:=b2;exact⟨_,_,es0,b1,by rw[Ax,if_pos rfl],by rw[Yu4 (.inr h3)];exact b3⟩
 simp only[J6]at hb ⊢;rw[Ax,if_neg hrq];exact hb
theorem Ykg {S0 roots:List (Nat×Root)}{r:Nat}{b:Tk}(h:Xl (r,none) b=true) (hb:J6 S0 roots b):J6 S0 (del roots r) b:=by
 obtain⟨q,o⟩:=b;rcases Ycl h with h'|⟨x,y,h1,h2,h3⟩
 ·have h':r≠q:=h';cases o with
  | none=>simp only[J6]at hb ⊢;rw[Hj,if_neg h'];exact hb
  | some jd=>obtain⟨j,d⟩:=jd;simp only[J6]at hb ⊢;rw[Hj,if_neg h'];exact hb
 simp at h1
theorem Yfj {X:XSt}{S:St}(hS:SimX X S){r v i c:Nat}{t:Ty}{ws:List t.den}{d:D}(h:CD X.roots (.rf r v [(i,c)] 0 t ws) d) (hv:Cn X.roots r v=true){roots:List (Nat×Root)}(hg:J6 S.roots roots (r,some (i,c))) :
  ∃sz es,get roots r=some (.tr sz es)/\Dh roots (cC X.roots (.rf r v [(i,c)] 0 t ws))=some (d,put roots r (.tr sz (Fi es i c .hole))):=by
 obtain⟨sz,es,es0,g1,g2,g3⟩:=hg;refine⟨sz,es,g2, ?_⟩;rcases h with ⟨u,h1,_⟩|⟨n,h1,_⟩|⟨t',ws',r',p,lo,l,h1,h2,h3,h4,rfl,_⟩
 ·simp [cC,hv]at h1
 ·simp at h1
 simp only[cC,hv,C.rf.injEq]at h1;obtain⟨rfl,rfl,e3,rfl,e5⟩:=h1;have hn:=Wo hS h2;unfold Dr at hn;rw[g1]at hn;have hn':Am sz es [(i,c)]=some (t'.n,l):=g3.trans hn;simp only[cC,hv,Dh,g2,hn',e3,e5];rw[if_pos ⟨trivial,by omega⟩];rw[Kja]at h4;rw[h4];simp only[Et,g2];rw[show Sp es [(i,c)]=Fi es i c .hole from Zk9 es [] i c]
theorem Zqy {R : XRs} {c : XC} (h : ∀ r v p lo t ws, c ≠ .rf r v p lo t ws) {o : Option Tk} (ho : tkX R c = some o) : (o = none ∧ Ds R c = some none) ∨ ∃ r, o = some (r, none) ∧ Ds R c = some (some r) := by
  cases c <;> first
    | (exfalso; exact h _ _ _ _ _ _ rfl)
    | (simp only [tkX] at ho
       split at ho
       · rename_i r hr; simp only [Ka] at ho; exact .inr ⟨r, ho.symm, hr⟩
       · rename_i hr; simp only [Ka] at ho; exact .inl ⟨ho.symm, hr⟩
       · simp at ho)
theorem Zim {β:Type}{out:β}{X:XSt}{S:St}(hX0:XOk X) (hS:SimX X S){k:XSt->Option β}:∀(cs:List XC) (ds:List D) (tks:List Tk) (X1:XSt) (roots1:List (Nat×Root)),Ab (CD X.roots) cs ds->Rl X.roots cs=some tks->Zb1 tks=true->XOk X1->SimX X1 ⟨S.env,roots1,S.next,S.fix⟩ ->
  (∀a∈tks,J6 S.roots roots1 a)->Xm tks X1 k=some out ->
  ∃X2 rt,k X2=some out/\Cx roots1 (cs.map (cC X.roots))=some (ds,rt)/\XOk X2/\Ext X1 X2/\SimX X2 ⟨S.env,rt,S.next,S.fix⟩/\X2.env=X1.env/\X2.next=X1.next/\∀r s x,lk X2.roots r=some (s,x)->s<X1.stamp->get rt r=get roots1 r
 | [],[],tks,X1,roots1,_,ht,_,hX,h1,_,h=>by
  simp only[Rl,Ka]at ht;subst ht;exact⟨X1,roots1,h,rfl,hX,Ext.refl _,h1,rfl,rfl,fun _ _ _ _ _=>rfl⟩
 | c::cs,d::ds,tks,X1,roots1,hcd,ht,hdis,hX,h1,hgood,h=>by
  simp only[Rl]at ht;have nx:S.next=X1.next:=h1.next;split at ht
  ·rename_i a l ha hl;simp only[Ka]at ht;subst ht;have hdis':Zb2 a l=true/\Zb1 l=true:=by
    simp only[Zb1]at hdis;split at hdis
    ·rename_i h1;exact⟨h1,hdis⟩
    simp at hdis
   have hoff:=Ycm hdis'.1;by_cases hrf:∃r v p lo t ws,c=.rf r v p lo t ws
   ·obtain⟨r,v,p,lo,t,ws,rfl⟩:=hrf;simp only[tkX]at ha;split at ha
    ·rename_i i j;split at ha
     ·rename_i v' T0 xs0 hl0;split at ha
      ·rename_i hb;have hb:=Kq hb;subst hb;simp only[Ka]at ha;subst ha;obtain⟨sz,es,g1,g2⟩:=Yfj hS hcd.1 (Mj hl0) (hgood _ Kp);simp only[Xm]at h;split at h
       ·rename_i s1 T xs hl1;obtain⟨x,hx,h⟩:=Gs h;split at h
        ·rename_i x' hp;obtain⟨p1,p2⟩:=Zo8 T j x x' hp;obtain⟨z,z1,z2⟩:=h1.roots r s1 _ hl1 _ rfl;simp only at z1;rw[g1]at z1;simp only[Ka]at z1;subst z1;obtain⟨rfl,rfl⟩:=z2;have hxi:xs[i]? = some x:=by simpa [idx] using hx
         have hset:Fi (xs.map (Ae T)) i j .hole=(Bq xs i x').map (Ae T):=by
          simp only[Fi,Kba,hxi,Kha,Bq,Kbe,p2]
         obtain⟨a1,a2,a3⟩:=Zp6 (t:=T) (xs:=Bq xs i x') hX h1 hl1 rfl (by simp [Bq]);rw[hset]at g2;obtain⟨X2,rt,c1,c2,c3,c4,c5,c6,c7,c8⟩:=Zim hX0 hS cs ds l _ _ hcd.2 hl hdis'.2 a1 a3 (fun b hb=>by
          rw[<-hset];exact Ykh g1 (hoff b hb) (hgood b (Kj _ hb))) h
         refine⟨X2,rt,c1, ?_,c3,a2.trans c4,c5,c6,c7,fun q s x hq hs=>?_⟩
         ·simp only[Ke,Cx,g2,c2]
         rw[c8 q s x hq (Kpb hs),Ax];split
         ·rename_i e;subst e;have:=c4.roots r s x hq (Kpb hs);simp only[XSt.setR]at this;rw[Bd,if_pos rfl]at this;simp only[Ka,Kb]at this;omega
         rfl
        simp at h
       simp at h
      simp at ha
     simp at ha
    simp at ha
   rcases Zqy (fun r v p lo t ws e=>hrf ⟨r,v,p,lo,t,ws,e⟩) ha with ⟨h0,_⟩|⟨r,h0,ho⟩
   ·simp at h0
   simp only[Ka]at h0;subst h0;have hg:=Wv hS hcd.1 ho (roots:=roots1) (fun q hq=>by
    simp only[Ka]at hq;subst hq;exact hgood _ Kp)
   have hlt:r<X1.next:=by
    rw[<-nx,hS.next];exact Tq hX0 (cs:=[c]) (l:=[r]) (by simp only[Ed,ho]) r Kp
   simp only[Xm]at h;obtain⟨a1,a2,a3⟩:=Zv5 hX h1 hlt;have a3':SimX (X1.setR r .gone) ⟨S.env,del roots1 r,S.next,S.fix⟩:=by
    refine Xe a3 fun q s x hq hx=>?_;simp only[XSt.setR]at hq;rw[Bd]at hq;split at hq
    ·simp only[Ka,Kb]at hq;exact (hx hq.2.symm).elim
    rename_i e;rw[Hj,if_neg e]
   obtain⟨X2,rt,c1,c2,c3,c4,c5,c6,c7,c8⟩:=Zim hX0 hS cs ds l _ _ hcd.2 hl hdis'.2 a1 a3' (fun b hb=>Ykg (hoff b hb) (hgood b (Kj _ hb))) h;refine⟨X2,rt,c1, ?_,c3,a2.trans c4,c5,c6,c7,fun q s x hq hs=>?_⟩
   ·simp only[Ke,Cx,hg,D4,c2]
   rw[c8 q s x hq (Kpb hs),Hj];split
   ·rename_i e;subst e;have:=c4.roots r s x hq (Kpb hs);simp only[XSt.setR]at this;rw[Bd,if_pos rfl]at this;simp only[Ka,Kb]at this;omega
   rfl
  ·rename_i l ha hl;simp only[Ka]at ht;subst ht;have hnrf:∀r v p lo t ws,c≠.rf r v p lo t ws:=by
    intro r v p lo t ws e;subst e;simp only[tkX]at ha;split at ha
    ·split at ha
     ·split at ha<;>simp at ha
     simp at ha
    simp at ha
   rcases Zqy hnrf ha with ⟨_,ho⟩|⟨r,h0,_⟩
   ·have hg:=Wv hS hcd.1 ho (roots:=roots1) (fun q hq=>by simp at hq);obtain⟨X2,rt,c1,c2,c3⟩:=Zim hX0 hS cs ds l _ _ hcd.2 hl hdis hX h1 hgood h;exact⟨X2,rt,c1,by simp only[Ke,Cx,hg,D4,c2],c3⟩
   simp at h0
  simp at ht
 | [],_::_,_,_,_,h,_,_,_,_,_,_=>h.elim
 | _::_,[],_,_,_,h,_,_,_,_,_,_=>h.elim
theorem Zqz {X:XSt}{S:St}(hS:SimX X S):∀{cs:List XC}{tks:List Tk},Rl X.roots cs=some tks->∀a∈tks,J6 S.roots S.roots a
 | [],tks,h,a,ha=>by simp only[Rl,Ka]at h;subst h;simp at ha
 | c::cs,tks,h,a,ha=>by
  simp only[Rl]at h;split at h
  ·rename_i b l hb hl;simp only[Ka]at h;subst h;rcases Kh.1 ha with rfl|ha
   ·by_cases hrf:∃r v p lo t ws,c=.rf r v p lo t ws
    ·obtain⟨r,v,p,lo,t,ws,rfl⟩:=hrf;simp only[tkX]at hb;split at hb
     ·split at hb
      ·rename_i v' T0 xs0 hl0;split at hb
       ·simp only[Ka]at hb;subst hb;obtain⟨z,z1,z2⟩:=hS.roots r _ _ hl0 _ rfl;cases z with
        | tr _ _=>exact⟨_,_,_,z1,z1,rfl⟩
        | _=>exact z2.elim
       simp at hb
      simp at hb
     simp at hb
    rcases Zqy (fun r v p lo t ws e=>hrf ⟨r,v,p,lo,t,ws,e⟩) hb with ⟨h0,_⟩|⟨r,h0,ho⟩
    ·simp at h0
    simp only[Ka]at h0;subst h0;rfl
   exact Zqz hS hl a ha
  ·rename_i l hb hl;simp only[Ka]at h;subst h;exact Zqz hS hl a ha
  simp at h
def hT:Ty->Ty
 | .L t=>.H t
 | .P a b=>.P (hT a) (hT b)
 | t=>t
theorem Zf3:∀t:Ty,(hT t).n=t.n
 | .I _=>rfl
 | .Y=>rfl
 | .B=>rfl
 | .S=>rfl
 | .L _=>rfl
 | .H _=>rfl
 | .P a b=>by simp only[hT,Ty.n,Zf3 a,Zf3 b]
def up1:(t:Ty)->t.den->(hT t).den
 | .I _,z=>z
 | .Y,z=>z
 | .B,z=>z
 | .S,z=>z
 | .L _,xs=>some xs
 | .H _,o=>o
 | .P a b,x=>(up1 a x.1,up1 b x.2)
def V8:(t:Ty)->t.den->(hT t).den
 | .I _,z=>z
 | .Y,z=>z
 | .B,z=>z
 | .S,z=>z
 | .L _,_=>none
 | .H _,_=>none
 | .P a b,x=>(V8 a x.1,V8 b x.2)
def mvW (t:Ty) (lo n:Nat) (xs:List t.den):List (hT t).den:=(xs.take lo).map (up1 t)++(((xs.drop lo).take n).map (V8 t)++(xs.drop (lo+n)).map (up1 t))
theorem Zrf:∀(t:Ty) (x:t.den),Ae (hT t) (up1 t x)=Ae t x
 | .I _,_=>rfl
 | .Y,_=>rfl
 | .B,_=>rfl
 | .S,_=>rfl
 | .L _,_=>rfl
 | .H _,_=>rfl
 | .P a b,x=>by simp only[hT,up1,Ae,Zrf a,Zrf b]
theorem Zmu:∀(t:Ty) (x:t.den),Ae (hT t) (V8 t x)=(Ae t x).map Qx
 | .I _,_=>rfl
 | .Y,_=>rfl
 | .B,_=>rfl
 | .S,_=>rfl
 | .L _,_=>rfl
 | .H _,none=>rfl
 | .H _,some _=>rfl
 | .P a b,x=>by simp only[hT,V8,Ae,Zmu a,Zmu b,Kx]
theorem Yru (t:Ty) (lo n:Nat) (xs:List t.den):(mvW t lo n xs).map (Ae (hT t))=M1 lo n (xs.map (Ae t)):=by
 have h1:(Ae (hT t) ∘ up1 t)=Ae t:=by funext x;exact Zrf t x
 have h2:(Ae (hT t) ∘ V8 t)=fun x=>(Ae t x).map Qx:=by funext x;exact Zmu t x
 simp only[mvW,M1,Kx,Kqb,h1,h2,Keb,Kfb];congr 2
theorem Zye (t:Ty) (lo n:Nat) (xs:List t.den) (h:lo+n<=xs.length):(mvW t lo n xs).length=xs.length:=by
 simp only[mvW,Kt,Ko,Kua,Kma];omega
def noL:Ty->Bool
 | .L _=>false
 | .P a b=>noL a&&noL b
 | _=>true
def L8:(t:Ty)->t.den->t.den
 | .I _,z=>z
 | .Y,z=>z
 | .B,z=>z
 | .S,z=>z
 | .L _,z=>z
 | .H _,_=>none
 | .P a b,x=>(L8 a x.1,L8 b x.2)
theorem Zon:∀(t:Ty),noL t=true->∀x:t.den,Ae t (L8 t x)=(Ae t x).map Qx
 | .I _,_,_=>rfl
 | .Y,_,_=>rfl
 | .B,_,_=>rfl
 | .S,_,_=>rfl
 | .L _,h,_=>by simp [noL]at h
 | .H _,_,none=>rfl
 | .H _,_,some _=>rfl
 | .P a b,h,x=>by
  simp only[noL,Kd]at h;simp only[L8,Ae,Zon a h.1,Zon b h.2,Kx]
def V7:(t:Ty)->t.den
 | .I _=>(0:Int)
 | .Y=>(0:UInt8)
 | .B=>false
 | .S=>([]:List UInt8)
 | .L t=>([]:List t.den)
 | .H t=>(none:Option (List t.den))
 | .P a b=>(V7 a,V7 b)
def Hr {β:Type}(r v j:Nat):(t:Ty)->Nat->List XC->(t.den->List XC->Option β)->Option β
 | .I k,_,y::ys,f=>match toI y with
  | some (k',z)=>match kEq k k' with
   | true=>f z ys
   | false=>none
  | none=>none
 | .Y,_,y::ys,f=>match y with
  | .y b=>f b ys
  | _=>none
 | .B,_,y::ys,f=>match y with
  | .b x=>f x ys
  | _=>none
 | .S,_,y::ys,f=>match y with
  | .s l=>f l ys
  | _=>none
 | .H t0,c,y::ys,f=>match y with
  | .rf r' v' p lo t' ws=>match p,lo with
   | [(j',c')],0=>match Nat.beq r' r&&(Nat.beq v' v&&Nat.beq c' c) with
    | true=>chk (nEq j' j) (Qa t' t0 ws fun ws=>f (some ws) ys)
    | false=>none
   | _,_=>none
  | _=>none
 | .P a b,c,ys,f=>Hr r v j a c ys fun x ys=>Hr r v j b (c+a.n) ys fun y ys=>f (x,y) ys
 | _,_,_,_=>none
def Zmf:List XC->Option Nat
 | []=>none
 | .rf _ _ p _ _ _::l=>match p with
  | [(j,_)]=>some j
  | _=>Zmf l
 | _::l=>Zmf l
def MvC (r j c:Nat) (ej:List D) (y:C) (d:D):Prop:=(∃u,y=.lf u/\d=.lf u)\/∃s n l,y=.rf r [(j,c)] s 0 n/\ej[c]? = some (.sl s l)/\n<=l.length/\d=.sl s (l.take n)
def Ip (r j:Nat) (ej:List D):Nat->List C->List D->Prop
 | _,[],[]=>True
 | c,y::ys,d::ds=>MvC r j c ej y d/\Ip r j ej (c+1) ys ds
 | _,_,_=>False
theorem Ip.append {r j:Nat}{ej:List D}:∀{c:Nat}{ys:List C}{ds:List D}{ys':List C}{ds':List D},Ip r j ej c ys ds->Ip r j ej (c+ys.length) ys' ds'->Ip r j ej c (ys++ys') (ds++ds')
 | _,[],[],_,_,_,h=>by simpa using h
 | c,_::ys,_::ds,_,_,h,h'=>⟨h.1,Ip.append h.2 (by rw[show c+1+ys.length=c+(ys.length+1) by omega];exact h')⟩
 | _,[],_::_,_,_,h,_=>h.elim
 | _,_::_,[],_,_,h,_=>h.elim
def mvd:List C->List D->List D
 | y::ys,d::ds=>(match y with
  | .lf _=>d
  | _=>.hole)::mvd ys ds
 | _,ds=>ds
theorem Zyf:∀{ys:List C}{ds:List D}{ys':List C}{ds':List D},ys.length=ds.length->mvd (ys++ys') (ds++ds')=mvd ys ds++mvd ys' ds'
 | [],[],ys',ds',_=>by cases ys'<;>cases ds'<;>rfl
 | y::ys,d::ds,ys',ds',h=>by
  simp only[Kn,mvd];rw[Zyf (by simpa using h)]
 | [],_::_,_,_,h=>by simp at h
 | _::_,[],_,_,h=>by simp at h
theorem Zog {β:Type}{out:β}{R:XRs}{nx st r v j sz:Nat}{l:List (List D)}{ej:List D}(hv:Cn R r v=true) (hn:Ct R r []=some (sz,l)) (hj:l[j]? = some ej):∀(t:Ty) (c:Nat) (ys:List XC) (f:t.den->List XC->Option β),(∀y∈ys,okC R nx st y)->Hr r v j t c ys f=some out ->
  ∃x ys0 rest,ys=ys0++rest/\f x rest=some out/\Ip r j ej c (ys0.map (cC R)) (Ae t x)/\ys0.length=t.n/\(∀y∈ys0,cC R y≠.un)/\∀z:t.den,mvd (ys0.map (cC R)) (Ae t z)=(Ae t z).map Qx
 | .I k,c,y::ys,f,ho,h=>by
  simp only[Hr]at h;split at h
  ·rename_i k' z hz;split at h
   ·rename_i hk;simp only[kEq,decide_eq_true_eq]at hk;subst hk;refine⟨z,[y],ys,rfl,h,⟨.inl ⟨_,Nl hz,rfl⟩,trivial⟩,rfl, ?_,fun z'=>by simp only[Ke,Ktb,Nl hz];rfl⟩;intro y' hy;simp only[Koa]at hy;subst hy;rw[Nl hz];simp
   simp at h
  simp at h
 | .Y,c,y::ys,f,ho,h=>by
  simp only[Hr]at h;split at h
  ·rename_i b;exact⟨b,[.y b],ys,rfl,h,⟨.inl ⟨_,rfl,rfl⟩,trivial⟩,rfl,by intro y' hy;simp only[Koa]at hy;subst hy;simp [cC],fun z=>rfl⟩
  simp at h
 | .B,c,y::ys,f,ho,h=>by
  simp only[Hr]at h;split at h
  ·rename_i b;exact⟨b,[.b b],ys,rfl,h,⟨.inl ⟨_,rfl,rfl⟩,trivial⟩,rfl,by intro y' hy;simp only[Koa]at hy;subst hy;simp [cC],fun z=>rfl⟩
  simp at h
 | .S,c,y::ys,f,ho,h=>by
  simp only[Hr]at h;split at h
  ·rename_i b;exact⟨b,[.s b],ys,rfl,h,⟨.inl ⟨_,rfl,rfl⟩,trivial⟩,rfl,by intro y' hy;simp only[Koa]at hy;subst hy;simp [cC],fun z=>rfl⟩
  simp at h
 | .H t0,c,y::ys,f,ho,h=>by
  simp only[Hr]at h;split at h
  ·rename_i r' v' p lo t' ws;split at h
   ·rename_i j' c';split at h
    ·rename_i hb;simp only[Kd]at hb;have b1:=Kq hb.1;have b2:=Kq hb.2.1;have b3:=Kq hb.2.2;subst b1 b2 b3;obtain⟨hjj,h'⟩:=Dt h;simp only[nEq,decide_eq_true_eq]at hjj;subst hjj;obtain⟨ws',h1,rfl,h3,h4⟩:=Vh h';obtain⟨_,_,o3⟩:=ho _ Kp;obtain⟨l',q1,q2,q3⟩:=o3 hv;rw[show [(j',c')]=[]++[(j',c')] from rfl,Zat hn,hj]at q1;simp only[Kra]at q1;rw[Kr]at q2;rw[Kja]at q3;have hc:∃es,ej[c']? = some (.sl t'.n es)/\es=l':=by
      split at q1
      ·rename_i s es he;simp only[Ka,Kb]at q1;obtain⟨rfl,rfl⟩:=q1;exact⟨_,he,rfl⟩
      simp at q1
     obtain⟨es,hc,rfl⟩:=hc;refine⟨some ws',[_],ys,rfl,h1,⟨.inr ⟨t'.n,ws.length,es,by simp only[cC,hv],hc,q2, ?_⟩,trivial⟩,rfl, ?_,fun z=>by cases z<;>simp only[Ke,Ktb,cC,hv]<;>rfl⟩
     ·simp only[Ae];rw[q3,h3]
     intro y' hy;simp only[Koa]at hy;subst hy;simp [cC,hv]
    simp at h
   simp at h
  simp at h
 | .P a b,c,ys,f,ho,h=>by
  simp only[Hr]at h;obtain⟨x,ys0,rest,rfl,h,h2,h3,h4,h5⟩:=Zog hv hn hj a c ys _ ho h;obtain⟨y,ys1,rest1,rfl,h,g2,g3,g4,g5⟩:=Zog hv hn hj b _ rest _ (fun y hy=>ho y (Kic _ hy)) h;refine⟨(x,y),ys0++ys1,rest1,by simp,h, ?_,by simp only[Kt,h3,g3,Ty.n], ?_,fun z=>by
   simp only[Kx,Ae];rw[Zyf (by rw[Ko,h3,Bu]),h5,g5]⟩
  ·simp only[Kx,Ae];exact Ip.append h2 (by rw[Ko,h3];exact g2)
  intro z hz;rcases Kca.1 hz with hz|hz
  ·exact h4 z hz
  exact g4 z hz
 | .L _,_,ys,_,_,h=>by cases ys<;>simp [Hr]at h
 | .I _,_,[],_,_,h=>by simp [Hr]at h
 | .Y,_,[],_,_,h=>by simp [Hr]at h
 | .B,_,[],_,_,h=>by simp [Hr]at h
 | .S,_,[],_,_,h=>by simp [Hr]at h
 | .H _,_,[],_,_,h=>by simp [Hr]at h
end Go.Vs
namespace Go.Vs
variable [Glb]
def Zck:(t:Ty)->t.den
 | .I _=>(0:Int)
 | .Y=>(0:UInt8)
 | .B=>false
 | .S=>([]:List UInt8)
 | .L t=>([]:List t.den)
 | .H t=>(some []:Option (List t.den))
 | .P a b=>(Zck a,Zck b)
def zc:Ty->List C
 | .I k=>[.lf (.int k 0)]
 | .Y=>[.lf (.int .u8 0)]
 | .B=>[.lf (.bool false)]
 | .S=>[.lf (.string ⟨#[]⟩)]
 | .L t=>[.nl t.n]
 | .H t=>[.nl t.n]
 | .P a b=>zc a++zc b
def eqC:C->C->Bool
 | .lf (.int k z),.lf (.int k' z')=>decide (k=k')&&decide (z=z')
 | .lf (.bool a),.lf (.bool b)=>a==b
 | .lf (.string a),.lf (.string b)=>a.data.toList.isEmpty&&b.data.toList.isEmpty
 | .nl a,.nl b=>Nat.beq a b
 | _,_=>false
def Ss:List C->List C->Bool
 | [],[]=>true
 | a::as,b::bs=>eqC a b&&Ss as bs
 | _,_=>false
inductive Hn where
 | no
 | el (t:Ty)
 | sb
 deriving Inhabited
def Zyb (z:Int) (bytes:Nat):Bool:=decide (0<=z/\z*bytes<=140737488355328/\z<=9223372036854775807)
def Pc:XC->Option Nat
 | .rw r=>some r
 | .rv r _ _=>some r
 | .rf r _ _ _ _ _=>some r
 | _=>none
def Zqr {β:Type}(X:XSt) (n:Nat) (p v:XV) (k:XV->XSt->Option β):Option β:=match p,H5 v with
 | .a (.c (.pb r c)),some ys=>match lk X.roots r with
  | some (_,.bx cs)=>match Nat.beq ys.length n&&Nat.ble (c+n) cs.length with
   | true=>k .un (X.setR r (.bx (cs.take c++(ys.map (fun y=>(X.stamp,y))++cs.drop (c+n)))))
   | false=>none
  | _=>none
 | .a (.c (.pe r v [] i c t e)),some ys=>match lk X.roots r with
  | some (v',.tr t' xs)=>if ht:t'=t then match Nat.beq v' v&&Nat.beq ys.length n&&Nat.ble (c+n) t.n,Ed X.roots ys with
   | true,some ids=>match Nd ids&&!M0 r ids&&(ids.isEmpty&&(ys.all fun y=>match y with|.nl _=>false|_=>true)||Nat.ble X.fix r) with
    | true=>Qe ((hsO t e).take c) (Qe (((hsO t e).drop (c+n)).take t.n) (Er X.roots t ((Iv r v [] i t e 0).take c++(ys++(Iv r v [] i t e 0).drop (c+n))) fun e' rest=>match rest with
     | []=>k .un ((X.delRs ids).setR r (.tr t (Bq (ht ▸ xs) i e')))
     | _=>none))
    | false=>none
   | true,none=>match Nat.beq c 0&&(Nat.beq n t.n&&(noL t&&Nat.ble X.fix r)) with
    | true=>match Zmf ys with
     | some j=>chk (nNe i j) (bnd (idx (ht ▸ xs:List t.den) (Int.ofNat j)) fun ej=>Hr r v j t 0 ys fun e' rest=>match rest with
      | []=>k .un (X.setR r (.tr t (Bq (Bq (ht ▸ xs) i e') j (L8 t ej))))
      | _=>none)
     | none=>none
    | false=>none
   | _,_=>none
   else none
  | _=>none
 | _,_=>none
def Zek (X:XSt) (x:XV) (h:Hn):Option ((t:Ty)×List t.den×Option Nat):=match x with
 | .a (.c (.nl _))=>match h with
  | .el t=>some ⟨t,[],none⟩
  | _=>none
 | .a (.c (.rw r))=>match lk X.roots r with
  | some (_,.tr t xs)=>some ⟨t,xs,some r⟩
  | _=>none
 | _=>none
def Yan:XC->Option (Nat×Nat×Nat)
 | .rv r lo n=>some (r,lo,n)
 | _=>none
def Ey:Option Nat->List Nat
 | none=>[]
 | some r=>[r]
def wrX {β:Type}(X:XSt) (h:Hn) (j:W) (k:XV->XSt->Option β):Option β:=match j with
 | .alloc zero=>match zero.all M2 with
  | true=>k (.a (.c (.pb X.next 0))) (X.newR (.bx (zero.map fun c=>(X.stamp,ofC c))))
  | false=>none
 | .box x=>match H5 (X.opd x) with
  | some cs=>k (.a (.c (.pb X.next 0))) (X.newR (.bx (cs.map fun c=>(X.stamp,c))))
  | none=>none
 | .store n x v=>Zqr X n (X.opd x) (X.opd v) k
 | .mks sz bytes zero l c=>match h,L2 (X.opd l),L2 (X.opd c) with
  | .el t,some z,some z'=>match Ss zero (zc t)&&Nat.beq sz t.n with
   | true=>chk (iEq z' z) (chk (Zyb z bytes) (k (.a (.c (.rw X.next))) (X.newR (.tr t (I2 (nOf z) (Zck t))))))
   | false=>none
  | _,_,_=>none
 | .lit sz len zero parts=>match zero.all M2 with
  | true=>match Vv X ((rep len zero).map ofC) (parts.map fun x=>(x.1*sz,sz,x.2)) with
   | some cs=>match h with
    | .sb=>k (.sb X.next len) (X.newR (.bx (cs.map fun c=>(X.stamp,c))))
    | .el t=>match Ed X.roots cs with
     | some ids=>match Nd ids&&Nat.beq sz t.n with
      | true=>Tx X.roots t len cs fun xs=>k (.a (.c (.rw X.next))) ((X.delRs ids).newR (.tr t xs))
      | false=>none
     | none=>match Rl X.roots cs with
      | some tks=>match Zb1 tks&&Nat.beq sz t.n with
       | true=>Tx X.roots t len cs fun xs=>Xm tks X fun X1=>k (.a (.c (.rw X1.next))) (X1.newR (.tr t xs))
       | false=>none
      | none=>none
    | .no=>none
   | none=>none
  | false=>none
 | .s2b x=>match X.opd x with
  | .a (.c (.s l))=>k (.a (.c (.rw X.next))) (X.newR (.tr .Y l))
  | _=>none
 | .app sz bytes _ x y=>match Zek X (X.opd x) h,X.opd y with
  | some ⟨t,xs,ro⟩,.a (.c (.nl _))=>match Nat.beq sz t.n&&(match X.opd x with|.a (.c (.nl n))=>Nat.beq n sz|_=>true) with
   | true=>chk (A0 xs.length bytes) (k (.a (.c (.rw X.next))) ((X.delRs (Ey ro)).newR (.tr t xs)))
   | false=>none
  | some ⟨t,xs,ro⟩,.a (.c c)=>match Nat.beq sz t.n&&(match X.opd x with|.a (.c (.nl n))=>Nat.beq n sz|_=>true) with
   | true=>match Pc c with
    | some ry=>match M0 ry (Ey ro) with
     | true=>none
     | false=>Pv X.roots c fun t' ws=>Si t' t ws fun ws=>chk (A0 (xs.length+ws.length) bytes) (match t.flat with
      | true=>k (.a (.c (.rw X.next))) ((X.delRs (Ey ro)).newR (.tr t (Al xs ws)))
      | false=>match Yan c with
       | some (r,lo,m)=>match lk X.roots r with
        | some (_,.tr T0 xs0)=>k (.a (.c (.rw X.next))) (((X.delRs (Ey ro)).setR r (.tr (hT T0) (mvW T0 lo m xs0))).newR (.tr t (Al xs ws)))
        | _=>none
       | none=>match Ds X.roots c with
        | some (some r)=>k (.a (.c (.rw X.next))) ((X.delRs (r::Ey ro)).newR (.tr t (Al xs ws)))
        | _=>none)
    | none=>none
   | false=>none
  | _,_=>none
 | .aps _ x y=>match Zek X (X.opd x) (.el .Y),X.opd y with
  | some ⟨.Y,xs,ro⟩,.a (.c (.s l))=>match (match X.opd x with|.a (.c (.nl n))=>Nat.beq n 1|_=>true) with
   | true=>chk (A0 (xs.length+l.length) 1) (k (.a (.c (.rw X.next))) ((X.delRs (Ey ro)).newR (.tr .Y (Al xs l))))
   | false=>none
  | _,_=>none
 | .clr sz zero x=>match X.opd x with
  | .a (.c (.nl _))=>k .un X
  | .a (.c (.rv r lo n))=>match lk X.roots r with
   | some (_,.tr T xs)=>match Nat.beq sz T.n&&(Ss zero (zc T)&&noL T) with
    | true=>chk (nEq (lo+n) xs.length) (k .un (X.setR r (.tr T (Al (Br lo xs) (I2 n (V7 T))))))
    | false=>none
   | _=>none
  | _=>none
 | _=>none
def K8:XC->Bool
 | .lf _=>true
 | .i _ _=>true
 | .y _=>true
 | .b _=>true
 | .s _=>true
 | _=>false
def Za4 (X:XSt) (j:W):Bool:=match j with
 | .store _ x v=>match X.opd x,H5 (X.opd v) with
  | .a (.c (.pe _ _ _ _ _ _ _)),some ys=>ys.all K8
  | _,_=>true
 | _=>true
def Y7 {β:Type}(X:XSt) (S:St) (j:W) (k:XV->XSt->Option β) (out:β):Prop :=
 ∃xv X',k xv X'=some out/\XOk X'/\Ext X X'/\okV X'.roots X'.next X'.stamp xv/\X'.env=X.env /\
  ∃v ks roots,WkV v (cV X'.roots xv)/\SimX X' ⟨C0 ks S.env,roots,X'.next,S.fix⟩/\(Za4 X j=true->ks=[]/\∀r s x,lk X'.roots r=some (s,x)->s<X.stamp->get roots r=get S.roots r)/\∀K:KW,K v ks roots X'.next->wr S K j
section
variable {β:Type} {X:XSt} {S:St} {out:β}
theorem Yjh {a b:C}(h:eqC a b=true):a=b:=by
 unfold eqC at h;split at h
 ·simp only[Kd,decide_eq_true_eq]at h;obtain⟨rfl,rfl⟩:=h;rfl
 ·simp only[beq_iff_eq]at h;rw[h]
 ·rename_i a b;simp only[Kd,Kkd]at h;obtain⟨⟨a⟩⟩:=a;obtain⟨⟨b⟩⟩:=b;simp only at h;rw[h.1,h.2]
 ·rw[Kq h]
 simp at h
theorem Zl7:∀{a b:List C},Ss a b=true->a=b
 | [],[],_=>rfl
 | a::as,b::bs,h=>by
  simp only[Ss,Kd]at h;rw[Yjh h.1,Zl7 h.2]
 | [],_::_,h=>by simp [Ss]at h
 | _::_,[],h=>by simp [Ss]at h
theorem Zrt:∀t:Ty,(zc t).map Rs=Ae t (Zck t)
 | .I _=>rfl
 | .Y=>rfl
 | .B=>rfl
 | .S=>rfl
 | .L t=>rfl
 | .H t=>rfl
 | .P a b=>by simp only[zc,Kx,Zrt a,Zrt b,Ae,Zck]
theorem Zru:∀t:Ty,(zc t).all Tt=true
 | .I _=>rfl
 | .Y=>rfl
 | .B=>rfl
 | .S=>rfl
 | .L t=>rfl
 | .H t=>rfl
 | .P a b=>by simp only[zc,List.all_append,Zru a,Zru b,Kqd]
theorem Zpu {X':XSt}{r s:Nat}{t:Ty}{xs:List t.den}(h:lk X'.roots r=some (s,.tr t xs)){n:Nat}(hn:n=xs.length):WkV (.a (.c (.rf r [] t.n 0 n))) (cV X'.roots (.a (.c (.rw r)))):=by
 subst hn;simp only[cV,cA,cC,h];exact WkC.refl _
theorem Q7 (X:XSt) (x:XR):lk (X.newR x).roots X.next=some (X.stamp,x):=by simp only[XSt.newR];rw[Bd,if_pos rfl]
theorem Zo3 {X:XSt}{cs:List (Nat×XC)}{r:Nat}(h:r=X.next):WkV (.a (.c (.pb r 0))) (cV (X.newR (.bx cs)).roots (.a (.c (.pb X.next 0)))):=by
 subst h;simp only[cV,cA,cC,Q7];exact WkC.refl _
theorem Zvu (hX:XOk X) (hS:SimX X S){X1:XSt}{roots:List (Nat×Root)}(h1:XOk X1) (hE:Ext X X1) (h2:SimX X1 ⟨S.env,roots,S.next,S.fix⟩) (he:X1.env=X.env) (hn1:X1.next=X.next) (hsm:∀r s x,lk X1.roots r=some (s,x)->s<X.stamp->get roots r=get S.roots r){t:Ty}{xs:List t.den}{k:XV->XSt->Option β}{j:W}(h:k (.a (.c (.rw X1.next))) (X1.newR (.tr t xs))=some out)
  {n:Nat} (hn:n=xs.length) (hw:∀K:KW,K (.a (.c (.rf S.next [] t.n 0 n))) [] ((S.next,.tr t.n (xs.map (Ae t)))::roots) (S.next+1)->wr S K j):Y7 X S j k out:=by
 obtain⟨f1,f2,f3⟩:=Q8 (x:=.tr t xs) (y:=.tr t.n (xs.map (Ae t))) h1 h2 (fun cs h=>by simp at h) ⟨_,rfl,rfl,rfl⟩;have hnx:S.next=X.next:=hS.next;refine⟨_,_,h,f1,hE.trans f2, ?_,he,.a (.c (.rf S.next [] t.n 0 n)),[],(S.next,.tr t.n (xs.map (Ae t)))::roots, ?_, ?_, ?_, ?_⟩
 ·show X1.next<X1.next+1;exact Kqa _
 ·rw[hnx,<-hn1];exact Zpu (s:=X1.stamp) (Q7 _ _) hn
 ·rw[Oz,hnx];have:(X1.newR (.tr t xs)).next=X1.next+1:=rfl;rw[this,<-hn1];exact f3
 ·intro _;refine⟨rfl,fun r s x hl hs=>?_⟩;simp only[XSt.newR]at hl;rw[Bd]at hl;split at hl
  ·simp only[Ka,Kb]at hl;have:=hE.stamp;omega
  rename_i hne;simp only at hne;simp only[get];rw[if_neg (by rw[hnx,<-hn1];exact hne)];exact hsm r s x hl hs
 intro K hK;have:(X1.newR (.tr t xs)).next=S.next+1:=by show X1.next+1=_;rw[hn1,hnx]
 rw[this]at hK;exact hw K hK
theorem S6 (hX:XOk X) (hS:SimX X S){ids:List Nat}(hi:∀r∈ids,r<X.next){t:Ty}{xs:List t.den}{roots:List (Nat×Root)}(hr:∀r,r ∉ ids->get roots r=get S.roots r){k:XV->XSt->Option β}{j:W}(h:k (.a (.c (.rw X.next))) ((X.delRs ids).newR (.tr t xs))=some out)
  {n:Nat} (hn:n=xs.length) (hw:∀K:KW,K (.a (.c (.rf S.next [] t.n 0 n))) [] ((S.next,.tr t.n (xs.map (Ae t)))::roots) (S.next+1)->wr S K j):Y7 X S j k out:=by
 obtain⟨a,b,c⟩:=Zp ids hX hS hi;obtain⟨e1,e2,e3,e4⟩:=Zo ids X;have c':SimX (X.delRs ids) ⟨S.env,roots,S.next,S.fix⟩:=by
  refine Xe (R:=S.roots) c ?_;intro r s x hl hx;by_cases hm:r∈ids
  ·obtain⟨s',hg⟩:=(K1 ids X r).1 hm;rw[hl]at hg;simp only[Ka,Kb]at hg;exact (hx hg.2).elim
  exact hr r hm
 obtain⟨f1,f2,f3⟩:=Q8 (x:=.tr t xs) (y:=.tr t.n (xs.map (Ae t))) a c' (fun cs h=>by simp at h) ⟨_,rfl,rfl,rfl⟩;have hnx:S.next=X.next:=hS.next;refine⟨_,_,h,f1,b.trans f2, ?_,e1,.a (.c (.rf S.next [] t.n 0 n)),[],(S.next,.tr t.n (xs.map (Ae t)))::roots, ?_, ?_, ?_, ?_⟩
 ·show X.next<(X.delRs ids).next+1;rw[e2];exact Kqa _
 ·rw[hnx];refine Zpu (s:=(X.delRs ids).stamp) ?_ hn;rw[<-e2];exact Q7 _ _
 ·rw[Oz,hnx];have:((X.delRs ids).newR (.tr t xs)).next=(X.delRs ids).next+1:=rfl;rw[this,<-e2];exact f3
 ·intro _;refine⟨rfl,fun r s x hl hs=>?_⟩;simp only[XSt.newR]at hl;rw[Bd]at hl;split at hl
  ·simp only[Ka,Kb]at hl;omega
  rename_i hne;simp only at hne;simp only[get];rw[if_neg (by rw[hnx,<-e2];exact hne)];by_cases hm:r∈ids
  ·have key:∀(l:List Nat) (Y:XSt),r∈l->∀s x,lk (Y.delRs l).roots r=some (s,x)->Y.stamp<=s:=by
    intro l
    induction l with
    | nil=>intro Y h;simp at h
    | cons q l ih =>
     intro Y h s x hl;by_cases hq:r∈l
     ·have:=ih (Y.setR q .gone) hq s x hl;have e:(Y.setR q .gone).stamp=Y.stamp+1:=rfl;omega
     have hq':=(Kh.1 h).resolve_right hq;subst hq';have h2:lk ((Y.setR r .gone).delRs l).roots r=some (s,x):=hl;rw[(K1 l (Y.setR r .gone) r).2 hq]at h2;simp only[XSt.setR]at h2;rw[Bd,if_pos rfl]at h2;simp only[Ka,Kb]at h2;omega
   have:=key ids X hm s x hl;omega
  exact hr r hm
 intro K hK;have:((X.delRs ids).newR (.tr t xs)).next=S.next+1:=by show (X.delRs ids).next+1=_;rw[e2,hnx]
 rw[this]at hK;exact hw K hK
theorem Zkl (hX:XOk X) (hS:SimX X S){cs:List XC}{ys:List C}(hy:Ab WkC ys (cs.map (cC X.roots))) (ho:∀c∈cs,okC X.roots X.next X.stamp c){k:XV->XSt->Option β}{j:W}{xv:XV}{v:V}(hv:WkV v (cV (X.newR (.bx (cs.map fun c=>(X.stamp,c)))).roots xv)) (hxo:okV (X.newR (.bx (cs.map fun c=>(X.stamp,c)))).roots (X.next+1) (X.stamp+1) xv) (h:k xv (X.newR (.bx (cs.map fun c=>(X.stamp,c))))=some out)
  (hw:∀K:KW,K v [] ((S.next,.bx ys)::S.roots) (S.next+1)->wr S K j):Y7 X S j k out:=by
 obtain⟨f1,f2,f3⟩:=Q8 (x:=.bx (cs.map fun c=>(X.stamp,c))) (y:=.bx ys) (E:=S.env) (R:=S.roots) (n:=S.next) (f:=S.fix) hX hS (fun cs' h e he=>by
  simp only[XR.bx.injEq]at h;subst h;obtain⟨c,hc,rfl⟩:=Ky.1 he;exact⟨rfl,ho c hc⟩) ⟨_,rfl,by simp only[WkR,Kqb];exact hy⟩
 have hnx:S.next=X.next:=hS.next;refine⟨xv,_,h,f1,f2,hxo,rfl,v,[],(S.next,.bx ys)::S.roots,hv, ?_,fun _=>⟨rfl,fun r s x hl hs=>?_⟩,fun K hK=>hw K ?_⟩
 ·rw[Oz,hnx];exact f3
 ·simp only[XSt.newR]at hl;rw[Bd]at hl;split at hl
  ·simp only[Ka,Kb]at hl;omega
  rename_i hne;simp only[get];rw[if_neg (by rw[hnx];exact hne)]
 rw[hnx];rw[hnx]at hK;exact hK
end
end Go.Vs
namespace Go.Vs
variable [Glb]
section
variable {β:Type} {X:XSt} {S:St} {out:β}
def U8 (r:Nat) (ks:List (Nat×Af)):Prop:=∀k∈ks,k.1=r/\k.2≠[]
theorem Yqe (ks ks':List (Nat×Af)) (x:C):A7 (ks++ks') x=A7 ks' (A7 ks x):=by
 induction ks generalizing x with
 | nil=>rfl
 | cons k ks ih=>exact ih _
theorem Znq {r:Nat}{x:C}(hx:∀q p s lo n,x=.rf q p s lo n->q≠r\/p=[]) (hx2:∀q p i c,x=.pe q p i c->q≠r\/p=[]):∀{ks:List (Nat×Af)},U8 r ks->A7 ks x=x
 | [],_=>rfl
 | k::ks,h=>by
  obtain⟨h1,h2⟩:=h k Kp;have e:Ew k.1 k.2 x=x:=by
   cases x with
   | rf q p s lo n =>
    simp only[Ew];rw[if_neg];rintro ⟨a,b⟩;rcases hx q p s lo n rfl with h|h
    ·exact h (a.trans h1)
    subst h;exact h2 (by simpa using b)
   | pe q p i c =>
    simp only[Ew];rw[if_neg];rintro ⟨a,b⟩;rcases hx2 q p i c rfl with h|h
    ·exact h (a.trans h1)
    subst h;exact h2 (by simpa using b)
   | _=>rfl
  show A7 ks (Ew k.1 k.2 x)=x;rw[e];exact Znq hx hx2 fun k hk=>h k (Kj _ hk)
theorem Zpo (k1 k2:C->C) (x:Root):Root.map k2 (Root.map k1 x)=Root.map (fun c=>k2 (k1 c)) x:=by
 cases x<;>simp [Root.map]
theorem Zqq (hS : SimX X S) {r i sz : Nat} (fx : Nat) : ∀ (ys : List XC) (ds : List D) (ids : List Nat) (roots : List (Nat × Root)) (es : List (List D)) (e : List D) (c : Nat) (ks : List (Nat × Af)),
    Ab (CD X.roots) ys ds → Ed X.roots ys = some ids → ids.Nodup → r ∉ ids → ((ids = [] ∧ ∀ y ∈ ys, ∃ v, cC X.roots y = .lf v) ∨ fx ≤ r) → get roots r = some (.tr sz es) → es[i]? = some e → c + ys.length ≤ e.length → U8 r ks →
    (∀ q ∈ ids, get roots q = (get S.roots q).map (Root.map (A7 ks))) →
    ∃ roots' m, Hw fx r [] i (ys.map (cC X.roots)) roots c ks = some (roots', ks ++ m) ∧ U8 r m ∧ get roots' r = some (.tr sz (es.set i (e.take c ++ (ds ++ e.drop (c + ds.length))))) ∧ (∀ q, q ≠ r → q ∉ ids → get roots' q = (get roots q).map (Root.map (A7 m))) ∧ ((∀ y ∈ ys, ∃ v, cC X.roots y = .lf v) → m = [])
  | [], [], ids, roots, es, e, c, ks, _, hi, _, _, _, hg, he, hl, hk, _ => by
    refine ⟨roots, [], by simp [Hw], (fun k hk => by simp at hk), ?_, (fun q _ _ => by rw [L9]), fun _ => rfl⟩;rw [hg];simp only [Km, Ki, Kga, Knc];rw [show es.set i e = es from by
      apply Kzc;intro j;rw [Kya];split
      · rename_i h; subst h
        split
        · exact he.symm
        rename_i h; rw [Kjc (by omega)]
      · rfl]
  | y :: ys, d :: ds, ids, roots, es, e, c, ks, h, hi, hn, hrn, hfx, hg, he, hl, hk, hids => by
    simp only [Kf] at hl;have hyk : A7 ks (cC X.roots y) = cC X.roots y := by
      have : ∃ o, Ds X.roots y = some o := by
        simp only [Ed] at hi;split at hi <;> first | exact ⟨_, by assumption⟩ | simp at hi
      obtain ⟨o, ho⟩ := this;refine Znq ?_ ?_ hk
      · intro q p s lo n hq
        right;cases y <;> simp only [Ds, reduceCtorEq] at ho <;> simp only [cC] at hq <;> (try simp at hq)
        · split at hq <;> simp at hq <;> first | exact hq.2.1 | exact hq.2.1.symm
        split at hq <;> simp at hq <;> first | exact hq.2.1 | exact hq.2.1.symm
      intro q p i' c' hq;cases y <;> simp only [Ds, reduceCtorEq] at ho <;> simp only [cC] at hq <;> (try simp at hq)
      · split at hq <;> simp at hq
      split at hq <;> simp at hq
    have hlt : i < es.length := (Kfa.1 he).1;have hset : ∀ d : D, Dg es [] i c d = es.set i (e.set c d) := fun d => by simp [Dg, D0, Fi, he]
    have hget : ∀ d : D, (es.set i (e.set c d))[i]? = some (e.set c d) := fun d => Kwc hlt;have hfin : ∀ (d : D) (ds : List D), (es.set i (e.set c d)).set i ((e.set c d).take (c + 1) ++ (ds ++ (e.set c d).drop (c + 1 + ds.length))) = es.set i (e.take c ++ (d :: ds ++ e.drop (c + (d :: ds).length))) := by
      intro d ds;rw [Kad];congr 1;have hc : c < e.length := by omega
      rw [Kne, Kwc (by simpa using hc), Kve (Kc c)];simp only [Kuf, Kva, Kn, Km, Kf];rw [Krg (by omega), show c + 1 + ds.length = c + (ds.length + 1) by omega]
    cases hyc : cC X.roots y with
    | lf u =>
      have hd : d = .lf u := by
        rcases h.1 with ⟨v, h1, rfl⟩ | ⟨n, rfl, _⟩ | ⟨t, ws, r', p, lo, l, h1, _⟩
        · rw [hyc] at h1; simp only [C.lf.injEq] at h1; rw [h1]
        · simp [cC] at hyc
        rw [hyc] at h1; simp at h1
      subst hd;have hids0 : Ed X.roots ys = some ids := by
        simp only [Ed] at hi;split at hi
        · rename_i q l h1 h2
          exfalso;cases y <;> simp only [Ds, reduceCtorEq, Ka] at h1 <;> simp only [cC] at hyc
          · split at hyc <;> simp at hyc
          split at hyc <;> simp at hyc
        · rename_i l h1 h2; rw [h2]; exact hi
        simp at hi
      obtain ⟨roots', m, g1, g2, g3, g4, g5⟩ := Zqq hS fx ys ds ids (put roots r (.tr sz (es.set i (e.set c (.lf u))))) _ _ (c + 1) ks h.2 hids0 hn hrn (hfx.imp (fun h => ⟨h.1, fun y hy => h.2 y (Kj _ hy)⟩) id) (by rw [Ax, if_pos rfl]) (hget _) (by simp; omega) hk
        (fun q hq => by rw [Ax, if_neg (fun e => hrn (by rw [e]; exact hq))]; exact hids q hq)
      refine ⟨roots', m, ?_, g2, by rw [g3, hfin], fun q hq hqi => ?_, fun hall => g5 fun y hy => hall y (Kj _ hy)⟩
      · simp only [Ke, Hw]
        rw [hyk, hyc];simp only [hg, hset];exact g1
      rw [g4 q hq hqi, Ax, if_neg (fun e => hq e.symm)]
    | _ =>
      have hnl : ∀ u, cC X.roots y ≠ .lf u := fun u h => by rw [hyc] at h; simp at h
      have hfr : fx ≤ r := by
        rcases hfx with ⟨_, h2⟩ | h2
        · obtain ⟨v, hv⟩ := h2 y Kp
          exact (hnl v hv).elim
        exact h2
      have hh : Ok sz es [] i (c + ys.length) = true := by
        simp only [Ok, Am, Kra, he, decide_eq_true_eq]; omega
      -- the cell is taken
      have main : ∀ (o : Option Nat) (ids' : List Nat), Ds X.roots y = some o → Ed X.roots ys = some ids' → ids = Ey o ++ ids' →
          ∃ roots' m, Hw fx r [] i ((y :: ys).map (cC X.roots)) roots c ks = some (roots', ks ++ m) ∧ U8 r m ∧ get roots' r = some (.tr sz (es.set i (e.take c ++ (d :: ds ++ e.drop (c + (d :: ds).length))))) ∧ (∀ q, q ≠ r → q ∉ ids → get roots' q = (get roots q).map (Root.map (A7 m))) ∧ ((∀ z ∈ y :: ys, ∃ v, cC X.roots z = .lf v) → m = []) := by
        intro o ids' ho hi' hids';subst hids';have hn' : ids'.Nodup := (Kdd.1 hn).2.1;have hor : o ≠ some r := fun e => hrn (by subst e; simp [Ey]);have ht : Dh roots (cC X.roots y) = some (d, D4 roots o) := by
          -- trees are not changed by what is killed
          cases o with
          | none => exact Wv hS h.1 ho (fun q hq => by simp at hq)
          | some q =>
            have hq := hids q (by simp [Ey]);have : ∃ t xs s, lk X.roots q = some (s, .tr t xs) := by
              cases y <;> simp only [Ds, reduceCtorEq, Ka] at ho
              · split at ho
                · rename_i hl; simp only [Ka] at ho; subst ho; exact ⟨_, _, _, hl⟩
                simp at ho
              split at ho
              · rename_i hl
                split at ho
                · simp only [Ka] at ho; subst ho; exact ⟨_, _, _, hl⟩
                simp at ho
              simp at ho
            obtain ⟨t, xs, s, hl⟩ := this;obtain ⟨z, z1, z2⟩ := hS.roots q s _ hl _ rfl;refine Wv hS h.1 ho (fun q' hq' => ?_);simp only [Ka] at hq';subst hq';rw [hq, z1];cases z with
            | tr _ _ => rfl
            | _ => exact z2.elim
        have hgd : ∀ q, o ≠ some q → get (D4 roots o) q = get roots q := by
          intro q hq;cases o with
          | none => rfl
          | some z => simp only [D4]; rw [Hj, if_neg (fun e => hq (by rw [e]))]
        obtain ⟨roots', m, g1, g2, g3, g4, g5⟩ := Zqq hS fx ys ds ids' (put (Tf r ([] ++ [(i, c)]) (D4 roots o)) r (.tr sz (es.set i (e.set c d)))) _ _ (c + 1) (ks ++ [(r, [] ++ [(i, c)])]) h.2 hi' hn' (fun hm => hrn (Kic _ hm)) (.inr hfr) (by rw [Ax, if_pos rfl]) (hget d) (by simp; omega)
          (by intro k hk'; rcases Kca.1 hk' with hk' | hk'
              · exact hk k hk'
              · simp only [Koa] at hk'; subst hk'; exact ⟨rfl, by simp⟩)
          (fun q hq => by
            have hqr : r ≠ q := fun e => hrn (by rw [e]; exact Kic _ hq);have hqo : o ≠ some q := fun e => by
              subst e;simp only [Ey, Kn, Km, Kta] at hn;exact hn.1 hq
            rw [Ax, if_neg hqr, V3, hgd q hqo, hids q (Kic _ hq)];cases get S.roots q with
            | none => rfl
            | some z =>
              simp only [Kha, Zpo];congr 2;funext x;rw [Yqe]; rfl)
        refine ⟨roots', [(r, [] ++ [(i, c)])] ++ m, ?_, ?_, by rw [g3, hfin], fun q hq hqi => ?_, fun hall => by
            obtain ⟨v, hv⟩ := hall y Kp;exact (hnl v hv).elim⟩
        · simp only [Ke, Hw]
          rw [hyk];have hr1 : get (D4 roots o) r = some (.tr sz es) := by rw [hgd r hor, hg]
          split
          · rename_i u hu; exact (hnl u hu).elim
          simp only [ht, hr1, Ko, hfr, hh, and_self, if_true, hset];rw [g1, Kva]
        · intro k hk'
          rcases Kca.1 hk' with hk' | hk'
          · simp only [Koa] at hk'; subst hk'; exact ⟨rfl, by simp⟩
          exact g2 k hk'
        rw [Kca, not_or] at hqi;have hqo : o ≠ some q := fun e => hqi.1 (by subst e; simp [Ey]);rw [g4 q hq hqi.2, Ax, if_neg (fun e => hq e.symm), V3, hgd q hqo];cases get roots q with
        | none => rfl
        | some z =>
          simp only [Kha, Zpo];congr 2
      simp only [Ed] at hi;split at hi
      · rename_i q l h1 h2
        simp only [Ka] at hi; subst hi;exact main (some q) l h1 h2 rfl
      · rename_i l h1 h2
        simp only [Ka] at hi; subst hi;exact main none l h1 h2 rfl
      simp at hi
  | [], _ :: _, _, _, _, _, _, _, h, _, _, _, _, _, _, _, _, _ => h.elim
  | _ :: _, [], _, _, _, _, _, _, h, _, _, _, _, _, _, _, _, _ => h.elim
def Y1 (r i:Nat) (ks:List (Nat×Af)):Prop:=∀k∈ks,∃c,k=(r,[(i,c)])
theorem Y1.in_ {r i:Nat}{ks:List (Nat×Af)}(h:Y1 r i ks):U8 r ks:=fun k hk=>by
 obtain⟨c,rfl⟩:=h k hk;exact⟨rfl,by simp⟩
theorem Zxe {r i j c s lo n:Nat}(hij:i≠j):∀{ks:List (Nat×Af)},Y1 r i ks->A7 ks (.rf r [(j,c)] s lo n)=.rf r [(j,c)] s lo n
 | [],_=>rfl
 | k::ks,h=>by
  obtain⟨c',e⟩:=h k Kp;subst e;have:Ew r [(i,c')] (.rf r [(j,c)] s lo n)=.rf r [(j,c)] s lo n:=by
   simp only[Ew];rw[if_neg];rintro ⟨_,h⟩;rw[Kef]at h;exact hij (by simpa using congrArg Prod.fst h.1)
  show A7 ks (Ew r [(i,c')] _)=_;rw[this];exact Zxe hij fun k hk=>h k (Kj _ hk)
theorem Ybl {α:Type}{l:List α}{i:Nat}{x:α}(h:l[i]? = some x):l.set i x=l:=by
 apply Kzc;intro j;rw[Kya];split
 ·rename_i e;subst e;split
  ·exact h.symm
  rename_i h';rw[Kjc (by omega)]
 rfl
theorem Ip.set {r j:Nat}{ej:List D}{c0:Nat}{z:D}:∀{c:Nat}{ys:List C}{ds:List D},c0<c->Ip r j ej c ys ds->Ip r j (ej.set c0 z) c ys ds
 | _,[],[],_,_=>trivial
 | c,_::_,_::_,hc,h=>by
  refine⟨?_,Ip.set (by omega) h.2⟩;rcases h.1 with h|⟨s,n,l,h1,h2,h3⟩
  ·exact .inl h
  exact .inr ⟨s,n,l,h1,by rw[Kgd (by omega)];exact h2,h3⟩
 | _,[],_::_,_,h=>h.elim
 | _,_::_,[],_,h=>h.elim
theorem Zqo {r i j sz : Nat} (hij : i ≠ j) {fx : Nat} (hfx : fx ≤ r) : ∀ (ys : List C) (ds : List D) (c : Nat) (roots : List (Nat × Root)) (es : List (List D)) (ei ej : List D) (ks : List (Nat × Af)),
    Ip r j ej c ys ds → get roots r = some (.tr sz es) → es[i]? = some ei → es[j]? = some ej → c + ys.length ≤ ei.length → c + ys.length ≤ ej.length → Y1 r i ks →
    ∃ roots' m, Hw fx r [] i ys roots c ks = some (roots', ks ++ m) ∧ Y1 r i m ∧ get roots' r = some (.tr sz ((es.set i (ei.take c ++ (ds ++ ei.drop (c + ds.length)))).set j (ej.take c ++ mvd ys (ej.drop c)))) ∧ ∀ q, q ≠ r → get roots' q = (get roots q).map (Root.map (A7 m))
  | [], [], c, roots, es, ei, ej, ks, _, hg, hi, hj, _, _, _ => by
    refine ⟨roots, [], by simp [Hw], (fun k hk => by simp at hk), ?_, (fun q _ => by rw [L9])⟩;rw [hg];have e1 : mvd [] (ej.drop c) = ej.drop c := by cases ej.drop c <;> rfl
    simp only [Km, Ki, Kga, Knc, e1];rw [Ybl hi, Ybl hj]
  | y :: ys, d :: ds, c, roots, es, ei, ej, ks, h, hg, hi, hj, hl, hlj, hk => by
    simp only [Kf] at hl hlj;have hilt : i < es.length := (Kfa.1 hi).1;have hjlt : j < es.length := (Kfa.1 hj).1;have hcj : c < ej.length := by omega
    have hci : c < ei.length := by omega
    have hA : ∀ (z : D) (ds : List D), (ei.set c z).take (c + 1) ++ (ds ++ (ei.set c z).drop (c + 1 + ds.length)) = ei.take c ++ (z :: ds ++ ei.drop (c + (z :: ds).length)) := by
      intro z ds;rw [Kne, Kwc hci, Kve (Kc c)];simp only [Kuf, Kva, Kn, Km, Kf];rw [Krg (by omega), show c + 1 + ds.length = c + (ds.length + 1) by omega]
    obtain ⟨h1, h2⟩ := h;rcases h1 with ⟨u, rfl, rfl⟩ | ⟨s, n, l, rfl, hc, hn, rfl⟩
    · have hset : Dg es [] i c (.lf u) = es.set i (ei.set c (.lf u)) := by simp [Dg, D0, Fi, hi]
      obtain ⟨roots', m, g1, g2, g3, g4⟩ := Zqo hij hfx ys ds (c + 1) (put roots r (.tr sz (es.set i (ei.set c (.lf u))))) _ (ei.set c (.lf u)) ej ks h2 (by rw [Ax, if_pos rfl]) (Kwc hilt) (by rw [Kgd hij]; exact hj) (by simp; omega) (by omega) hk;refine ⟨roots', m, ?_, g2, ?_, fun q hq => ?_⟩
      · simp only [Hw]
        rw [Zxd];simp only [hg, hset];exact g1
      · rw [g3, hA, Kad]
        congr 3;have e : ej.drop c = ej[c] :: ej.drop (c + 1) := Kwb hcj;rw [e];simp only [mvd];rw [Kne, Ku hcj];simp only [Kuf, Kva, Kn, Km]
      rw [g4 q hq, Ax, if_neg (fun e => hq e.symm)]
    have hcut : Sp es [(j, c)] = es.set j (ej.set c .hole) := by
      rw [show Sp es [(j, c)] = Dg es [] j c .hole from Zk9 es [] j c];simp [Dg, D0, Fi, hj]
    have hnode : Am sz es [(j, c)] = some (s, l) := by simp [Am, hj, hc]
    have hset : Dg (es.set j (ej.set c .hole)) [] i c (.sl s (l.take n)) = (es.set j (ej.set c .hole)).set i (ei.set c (.sl s (l.take n))) := by
      simp [Dg, D0, Fi, Kgd (Ne.symm hij), hi]
    have hh : Ok sz (es.set j (ej.set c .hole)) [] i (c + ys.length) = true := by
      simp only [Ok, Am, Kra, Kgd (Ne.symm hij), hi, decide_eq_true_eq]; omega
    obtain ⟨roots', m, g1, g2, g3, g4⟩ := Zqo hij hfx ys ds (c + 1) (put (Tf r ([] ++ [(i, c)]) (put roots r (.tr sz (es.set j (ej.set c .hole))))) r (.tr sz ((es.set j (ej.set c .hole)).set i (ei.set c (.sl s (l.take n)))))) _ (ei.set c (.sl s (l.take n))) (ej.set c .hole) (ks ++ [(r, [] ++ [(i, c)])])
      (Ip.set (Kqa c) h2) (by rw [Ax, if_pos rfl]) (Kwc (by simpa using hilt)) (by rw [Kgd hij, Kwc hjlt]) (by simp; omega) (by simp; omega)
      (by intro k hk'; rcases Kca.1 hk' with hk' | hk'
          · exact hk k hk'
          · simp only [Koa] at hk'; subst hk'; exact ⟨c, rfl⟩)
    refine ⟨roots', [(r, [] ++ [(i, c)])] ++ m, ?_, ?_, ?_, fun q hq => ?_⟩
    · simp only [Hw]
      rw [Zxe hij hk];simp only [Dh, hg, hnode];rw [if_pos ⟨trivial, hn⟩];simp only [Et, hg, hcut, Ax, if_true, hfx, hh, and_self, hset];rw [g1, Kva]
    · intro k hk'
      rcases Kca.1 hk' with hk' | hk'
      · simp only [Koa] at hk'; subst hk'; exact ⟨c, rfl⟩
      exact g2 k hk'
    · rw [g3, hA, Kad]
      congr 2;have ec : ∀ x A : List D, (es.set j x).set i A = (es.set i A).set j x := fun x A => List.set_comm _ _ (Ne.symm hij);rw [ec, Kad];congr 1;have e : ej.drop c = ej[c] :: ej.drop (c + 1) := Kwb hcj;rw [e];simp only [mvd];rw [Kne, Kwc hcj, Kve (Kc c), Krg (by omega)];simp only [Kuf, Kva, Kn, Km]
    rw [g4 q hq, Ax, if_neg (fun e => hq e.symm), V3, Ax, if_neg (fun e => hq e.symm)];cases get roots q with
    | none => rfl
    | some z =>
      simp only [Kha, Zpo];congr 2
  | [], _ :: _, _, _, _, _, _, _, h, _, _, _, _, _, _ => h.elim
  | _ :: _, [], _, _, _, _, _, _, h, _, _, _, _, _, _ => h.elim
end
end Go.Vs
