import Derived.Laws.Strings2
import Derived.Laws.Concat
import Derived.Test.YtmfmjngkbddenaaGreatDoorVsW2
set_option linter.all false
namespace Go.Vs
variable [Glb]
def toI:XC->Option (IntKind×Int)
 | .i k z=>match k with
  | .u8=>none
  | k=>some (k,z)
 | .y b=>some (.u8,y2i b)
 | _=>none
def mkI (k:IntKind) (z:Int):XC:=match k with
 | .u8=>.y (u8 z)
 | k=>.i k z
def kEq (a b:IntKind):Bool:=decide (a=b)
def I2 (lo n len:Nat):Bool:=decide (lo+n<=len)
def Zjs:BinOp->Int->Bool
 | .shl,b=>iLe 0 b
 | .shr,b=>iLe 0 b
 | .quo,b=>iNe b 0
 | .rem,b=>iNe b 0
 | _,_=>true
def Zjt:BinOp->Bool
 | .shl=>false
 | .shr=>false
 | _=>true
def Yk:BinOp->IntKind->Int->Int->Option XC
 | .add,k,a,b=>some (mkI k (Aj k a b))
 | .sub,k,a,b=>some (mkI k (A1 k a b))
 | .mul,k,a,b=>some (mkI k (Md k a b))
 | .quo,k,a,b=>some (mkI k (Zl6 k a b))
 | .rem,k,a,b=>some (mkI k (Dy a b))
 | .and,k,a,b=>some (mkI k (Aw k a b))
 | .or,k,a,b=>some (mkI k (iOr k a b))
 | .xor,k,a,b=>some (mkI k (Qe k a b))
 | .andNot,k,a,b=>some (mkI k (Zl4 k a b))
 | .shl,k,a,b=>some (mkI k (B1 k a b))
 | .shr,k,a,b=>some (mkI k (B2 k a b))
 | .eql,_,a,b=>some (.b (iEq a b))
 | .neq,_,a,b=>some (.b (iNe a b))
 | .lss,_,a,b=>some (.b (iLt a b))
 | .leq,_,a,b=>some (.b (iLe a b))
 | .gtr,_,a,b=>some (.b (iGt a b))
 | .geq,_,a,b=>some (.b (iGe a b))
def Zaq:BinOp->List UInt8->List UInt8->Option XC
 | .eql,a,b=>some (.b (sEq a b))
 | .neq,a,b=>some (.b (Ah (sEq a b)))
 | .lss,a,b=>some (.b (sLt a b))
 | .leq,a,b=>some (.b (bOr (sLt a b) (sEq a b)))
 | .gtr,a,b=>some (.b (Ah (bOr (sLt a b) (sEq a b))))
 | .geq,a,b=>some (.b (Ah (sLt a b)))
 | _,_,_=>none
def Zvp:BinOp->Bool
 | .add=>true
 | _=>false
def Wj (a b:List UInt8):Bool:=decide (a.length+b.length<9223372036854775808)
def Zm3 {β:Type}(op:BinOp) (x y:XC) (k:XC->Option β):Option β:=match x,y with
 | .s a,.s b=>match Zvp op with
  | true=>chk (Wj a b) (k (.s (Al a b)))
  | false=>match Zaq op a b with
   | some c=>k c
   | none=>none
 | x,y=>match toI x,toI y with
  | some (k1,a),some (k2,b)=>match kEq k1 k2||!Zjt op with
   | true=>chk (Zjs op b) (match Yk op k1 a b with
    | some c=>k c
    | none=>none)
   | false=>none
  | _,_=>none
def Cl (r v:Nat) (p:Ag) (i:Nat):(t:Ty)->t.den->Nat->List XC
 | .I k,z,_=>[.i k z]
 | .Y,b,_=>[.y b]
 | .B,x,_=>[.b x]
 | .S,l,_=>[.s l]
 | .L t,xs,c=>[.rf r v (p++[(i,c)]) 0 t xs]
 | .H t,o,c=>[match o with|some xs=>.rf r v (p++[(i,c)]) 0 t xs|none=>.un]
 | .P a b,x,c=>Cl r v p i a x.1 c++Cl r v p i b x.2 (c+a.n)
def Ii (r v:Nat) (p:Ag) (i:Nat):(t:Ty)->t.den->Nat->List XC
 | .I k,z,_=>[.i k z]
 | .Y,b,_=>[.y b]
 | .B,x,_=>[.b x]
 | .S,l,_=>[.s l]
 | .L t,xs,c=>[.rf r v (p++[(i,c)]) 0 t xs]
 | .H t,o,c=>[.rf r v (p++[(i,c)]) 0 t (I3 o)]
 | .P a b,x,c=>Ii r v p i a x.1 c++Ii r v p i b x.2 (c+a.n)
def hsL:(t:Ty)->t.den->List Bool
 | .H _,o=>[G7 o]
 | .P a b,x=>hsL a x.1++hsL b x.2
 | .I _,_=>[true]
 | .Y,_=>[true]
 | .B,_=>[true]
 | .S,_=>[true]
 | .L _,_=>[true]
def hsO:(t:Ty)->t.den->List (Option Bool)
 | .H _,o=>[some (G7 o)]
 | .P a b,x=>hsO a x.1++hsO b x.2
 | .I _,_=>[none]
 | .Y,_=>[none]
 | .B,_=>[none]
 | .S,_=>[none]
 | .L _,_=>[none]
def Pw {β:Type}:List (Option Bool)->Option β->Option β
 | [],k=>k
 | none::l,k=>Pw l k
 | some b::l,k=>chk b (Pw l k)
def Um:List Bool->Bool
 | []=>true
 | true::l=>Um l
 | false::_=>false
def O5 {β:Type}(R:XRs) (c:XC) (k:(t:Ty)->List t.den->Option β):Option β:=match c with
 | .rw r=>match lk R r with
  | some (_,.tr t xs)=>k t xs
  | some (_,.im t xs)=>k t xs
  | _=>none
 | .rv r lo n=>match lk R r with
  | some (_,.tr t xs)=>chk (I2 lo n xs.length) (k t (A9 n (Dk lo xs)))
  | some (_,.im t xs)=>chk (I2 lo n xs.length) (k t (A9 n (Dk lo xs)))
  | _=>none
 | .rf r v p lo t ws=>match Co R r v with
  | true=>k t ws
  | false=>none
 | _=>none
def Zn1 {β:Type}(t:Bool) (a b:XV) (k:XV->Option β):Option β:=match a,b with
 | .a (.c (.b x)),.a (.c (.b y))=>k (.a (.c (.b (Zhb t x y))))
 | .a (.c (.i k1 x)),.a (.c (.i k2 y))=>match kEq k1 k2 with
  | true=>k (.a (.c (.i k1 (Zhb t x y))))
  | false=>none
 | a,b=>cnd t (k a) (k b)
def Hr:XV->Option (List XC)
 | .a (.c x)=>some [x]
 | .a (.ag cs)=>some cs
 | _=>none
def U7 (X:XSt):List XC->List (Nat×Nat×Opd)->Option (List XC)
 | cs,[]=>some cs
 | cs,(off,sz,x)::rest=>match Hr (X.opd x) with
  | some ys=>match Nat.beq ys.length sz&&Nat.ble (off+sz) cs.length with
   | true=>U7 X (cs.take off++(ys++cs.drop (off+sz))) rest
   | false=>none
  | none=>none
def Lj (x:XV):Option Int:=match x with
 | .a (.c c)=>match toI c with
  | some (_,z)=>some z
  | none=>none
 | _=>none
def Zq:List Int->Nat
 | []=>0
 | _::l=>Nat.succ (Zq l)
def Js:List XC->Option (List Int)
 | []=>some []
 | .i .i64 z::l=>match Js l with
  | some m=>some (z::m)
  | none=>none
 | _::_=>none
def Zm5 {β:Type}(R:XRs) (c:XC) (k:Int->Option β):Option β:=match c with
 | .nl _=>k 0
 | .rw r=>match lk R r with
  | some (_,.tr t xs)=>k (Ae xs)
  | some (_,.im t xs)=>k (Ae xs)
  | _=>none
 | .rv r lo n=>match lk R r with
  | some (_,.tr t xs)=>k (Int.ofNat n)
  | some (_,.im t xs)=>k (Int.ofNat n)
  | _=>none
 | .rf r v p lo t ws=>match Co R r v with
  | true=>k (Ae ws)
  | false=>none
 | _=>none
def st0:Option Int->Nat
 | none=>0
 | some l=>nOf l
def Zo9 {β:Type}(R:XRs) (z0:Nat) (c:XC) (l:Option Int) (h:Option Int) (k:XC->Option β):Option β:=match c with
 | .rw r=>match lk R r with
  | some (_,.tr t xs)=>match Nat.beq z0 t.n with
   | true=>chk (Cp (l.getD 0) (h.getD (Ae xs)) (Ae xs)) (k (.rv r (st0 l) (nOf (h.getD (Ae xs))-st0 l)))
   | false=>none
  | some (v,.im t xs)=>match Nat.beq z0 t.n with
   | true=>chk (Cp (l.getD 0) (h.getD (Ae xs)) (Ae xs)) (k (.rf r v [] (st0 l) t (A9 (nOf (h.getD (Ae xs))-st0 l) (Dk (st0 l) xs))))
   | false=>none
  | _=>none
 | .rv r lo n=>match lk R r with
  | some (_,.tr t xs)=>match Nat.beq z0 t.n with
   | true=>chk (Cp (l.getD 0) (h.getD (Int.ofNat n)) (Int.ofNat n)) (k (.rv r (lo+st0 l) (nOf (h.getD (Int.ofNat n))-st0 l)))
   | false=>none
  | _=>none
 | .rf r v p lo t ws=>match Co R r v&&Nat.beq z0 t.n with
  | true=>chk (Cp (l.getD 0) (h.getD (Ae ws)) (Ae ws)) (k (.rf r v p (lo+st0 l) t (A9 (nOf (h.getD (Ae ws))-st0 l) (Dk (st0 l) ws))))
  | false=>none
 | _=>none
def Zmc {β:Type}(R:XRs) (sz:Nat) (c:XC) (z:Int) (k:XC->Option β):Option β:=match c with
 | .rw r=>match lk R r with
  | some (v,.tr t xs)=>match Nat.beq t.n sz with
   | true=>bnd (idx xs z) fun e=>k (.pe r v [] (nOf z) 0 t e)
   | false=>none
  | some (v,.im t xs)=>match Nat.beq t.n sz with
   | true=>bnd (idx xs z) fun e=>k (.pe r v [] (nOf z) 0 t e)
   | false=>none
  | _=>none
 | .rv r lo n=>match lk R r with
  | some (v,.tr t xs)=>match Nat.beq t.n sz with
   | true=>chk (iLt z (Int.ofNat n)) (bnd (idx (Dk lo xs) z) fun e=>k (.pe r v [] (lo+nOf z) 0 t e))
   | false=>none
  | _=>none
 | .rf r v p lo t ws=>match Co R r v&&Nat.beq t.n sz with
  | true=>bnd (idx ws z) fun e=>k (.pe r v p (lo+nOf z) 0 t e)
  | false=>none
 | _=>none
def mbI (X:XSt):Option Opd->Option (Option Int)
 | none=>some none
 | some x=>match Lj (X.opd x) with
  | some z=>some (some z)
  | none=>none
def Zrh (cs:List (Nat×XC)):Option (List Int):=match Nat.ble 16 cs.length with
 | true=>Js (cs.map (·.2))
 | false=>none
def glX {β:Type}(l:List UInt8):Nat->Nat->(List XC->Option β)->Option β
 | _,0,k=>k []
 | o,m+1,k=>bnd (idx l (Int.ofNat o)) fun y=>glX l (o+1) m fun cs=>k (.y y::cs)
def asX:List XV->Option (List XA)
 | []=>some []
 | .a x::l=>match asX l with
  | some r=>some (x::r)
  | none=>none
 | _=>none
def rdX {β:Type}(X:XSt) (i:I) (k:XV->Option β):Option β:=match i with
 | .mv x=>k (X.opd x)
 | .pick c a b=>match X.opd c with
  | .a (.c (.b t))=>Zn1 t (X.opd a) (X.opd b) k
  | _=>none
 | .load n x=>match X.opd x with
  | .a (.c (.pe r v p i c t e))=>match Co X.roots r v with
   | true=>match n with
    | none=>Pw (((hsO t e).drop c).take 1) (match (Ii r v p i t e 0)[c]? with
     | some y=>k (.a (.c y))
     | none=>none)
    | some m=>match Nat.ble (c+m) t.n with
     | true=>Pw (((hsO t e).drop c).take m) (k (.a (.ag (((Ii r v p i t e 0).drop c).take m))))
     | false=>none
   | false=>none
  | .a (.c (.pb r c))=>match lk X.roots r with
   | some (_,.bx cs)=>match n with
    | none=>match Zrh cs with
     | some l=>bnd (idx l (Int.ofNat c)) fun e=>k (.a (.c (.i .i64 e)))
     | none=>match cs[c]? with
      | some y=>k (.a (.c y.2))
      | none=>none
    | some m=>match Nat.ble (c+m) cs.length with
     | true=>k (.a (.ag (((cs.drop c).take m).map (·.2))))
     | false=>none
   | _=>none
  | .a (.c (.lf (.pointer (some ⟨b,o,none⟩))))=>match Zfd Glb.tab b with
   | some l=>match n with
    | none=>bnd (idx l (Int.ofNat o)) fun y=>k (.a (.c (.y y)))
    | some m=>glX l o m fun cs=>k (.a (.ag cs))
   | none=>none
  | _=>none
 | .nilc x=>match X.opd x with
  | .a (.c (.pe r v p i c t e))=>match Co X.roots r v with
   | true=>k (.a (.c (.pe r v p i c t e)))
   | false=>none
  | .a (.c (.pb r c))=>match lk X.roots r with
   | some (_,.bx _)=>k (.a (.c (.pb r c)))
   | _=>none
  | _=>none
 | .bin op x y=>match X.opd x,X.opd y with
  | .a (.c u),.a (.c v)=>Zm3 op u v fun c=>k (.a (.c c))
  | _,_=>none
 | .beq neg x y=>match X.opd x,X.opd y with
  | .a (.c (.b u)),.a (.c (.b v))=>k (.a (.c (.b (match neg with|true=>bNe u v|false=>bEq u v))))
  | _,_=>none
 | .aeq neg n x y=>match X.opd x,X.opd y with
  | .a (.ag cs),.a (.ag ds)=>match Js cs,Js ds with
   | some us,some vs=>match Nat.beq (Zq us) n&&Nat.beq (Zq vs) n with
    | true=>k (.a (.c (.b (match neg with|true=>Ah (zEq us vs)|false=>zEq us vs))))
    | false=>none
   | _,_=>none
  | _,_=>none
 | .un op x=>match op,X.opd x with
  | .not,.a (.c (.b u))=>k (.a (.c (.b (Ah u))))
  | .neg,.a (.c (.i kd z))=>k (.a (.c (mkI kd (Zvb kd z))))
  | _,_=>none
 | .conv kd x=>match Lj (X.opd x) with
  | some z=>k (.a (.c (mkI kd (Ak kd z))))
  | none=>none
 | .b2s x=>match X.opd x with
  | .a (.c (.nl _))=>k (.a (.c (.s [])))
  | .a (.c c)=>O5 X.roots c fun t ws=>match t,ws with
   | .Y,ws=>k (.a (.c (.s ws)))
   | _,_=>none
  | _=>none
 | .slc z0 x lo hi=>match X.opd x,mbI X lo,mbI X hi with
  | .a (.c c),some lo,some hi=>Zo9 X.roots z0 c lo hi fun c=>k (.a (.c c))
  | _,_,_=>none
 | .ssl x lo hi=>match X.opd x,mbI X lo,mbI X hi with
  | .a (.c (.s l)),some lo,some hi=>match lo.isSome||hi.isSome with
   | true=>chk (Cp (lo.getD 0) (hi.getD (Ae l)) (Ae l)) (k (.a (.c (.s (A9 (nOf (hi.getD (Ae l))-st0 lo) (Dk (st0 lo) l))))))
   | false=>none
  | _,_,_=>none
 | .fld off n x=>match X.opd x with
  | .a (.ag cs)=>match n with
   | none=>match cs[off]? with
    | some y=>k (.a (.c y))
    | none=>none
   | some m=>match Nat.ble (off+m) cs.length with
    | true=>k (.a (.ag ((cs.drop off).take m)))
    | false=>none
  | _=>none
 | .fad off x=>match X.opd x with
  | .a (.c (.pe r v p i c t e))=>match Co X.roots r v with
   | true=>k (.a (.c (.pe r v p i (c+off) t e)))
   | false=>none
  | .a (.c (.pb r c))=>match lk X.roots r with
   | some (_,.bx _)=>k (.a (.c (.pb r (c+off))))
   | _=>none
  | .a (.c (.lf (.pointer (some ⟨b,o,none⟩))))=>k (.a (.c (.lf (.pointer (some ⟨b,o+off,none⟩)))))
  | _=>none
 | .iad sz x i=>match X.opd x,Lj (X.opd i) with
  | .a (.c c),some z=>Zmc X.roots sz c z fun c=>k (.a (.c c))
  | _,_=>none
 | .iaa len sz x i=>match X.opd x,Lj (X.opd i) with
  | .a (.c (.pb r c)),some z=>match lk X.roots r with
   | some (_,.bx _)=>chk (iLe 0 z) (chk (iLt z (Int.ofNat len)) (k (.a (.c (.pb r (c+nOf z*sz))))))
   | _=>none
  | .a (.c (.lf (.pointer (some ⟨b,o,none⟩)))),some z=>chk (iLe 0 z) (chk (iLt z (Int.ofNat len)) (k (.a (.c (.lf (.pointer (some ⟨b,o+nOf z*sz,none⟩)))))))
  | _,_=>none
 | .idx x i=>match X.opd x,Lj (X.opd i) with
  | .a (.c (.s l)),some z=>bnd (idx l z) fun b=>k (.a (.c (.y b)))
  | _,_=>none
 | .ixa len none sz x i=>match X.opd x,Lj (X.opd i) with
  | .a (.ag cs),some z=>match Js cs,Nat.beq cs.length len&&Nat.beq sz 1 with
   | some l,true=>bnd (idx l z) fun e=>k (.a (.c (.i .i64 e)))
   | _,_=>none
  | _,_=>none
 | .ext i x=>match X.opd x with
  | .tp xs=>match xs[i]? with
   | some y=>k (.a y)
   | none=>none
  | _=>none
 | .len x=>match X.opd x with
  | .a (.c c)=>Zm5 X.roots c fun z=>k (.a (.c (.i .i64 z)))
  | _=>none
 | .sid x=>match X.opd x with
  | .a (.c (.s l))=>k (.a (.c (.s l)))
  | _=>none
 | .sln x=>match X.opd x with
  | .a (.c (.s l))=>k (.a (.c (.i .i64 (Ae l))))
  | _=>none
 | .build zero parts=>match zero.all Me with
  | true=>match U7 X (zero.map ofC) parts with
   | some cs=>k (.a (.ag cs))
   | none=>none
  | false=>none
 | .mkf f caps=>match asX (caps.map X.opd) with
  | some cs=>k (.fn f cs)
  | none=>none
 | _=>none
end Go.Vs
namespace Go.Vs
variable [Glb]
theorem Mz {R:XRs}{c:XC}{k:IntKind}{z:Int}(h:toI c=some (k,z)):cC R c=.lf (.int k z):=by
 cases c with
 | i k' z'=>cases k'<;>simp only[toI,Ka,Kb,reduceCtorEq]at h<;>(obtain⟨rfl,rfl⟩:=h;rfl)
 | y b=>simp only[toI,Ka,Kb]at h;obtain⟨rfl,rfl⟩:=h;rfl
 | _=>simp [toI]at h
theorem Znh {R:XRs}{nx st:Nat}{k:IntKind}{z:Int}:okC R nx st (mkI k z):=by cases k<;>trivial
theorem Zng {R:XRs}{k:IntKind}{z:Int}(h:k=.u8->0<=z/\z<256):cC R (mkI k z)=.lf (.int k z):=by
 cases k<;>try rfl
 have:=h rfl;simp only[mkI,cC,u8];congr 2;rw[UInt8.toNat_ofNat',Kdd (by omega)];omega
theorem Yvs (z:Int):0<=IntKind.u8.wrap z/\IntKind.u8.wrap z<256:=by rw[IntKind.wrap_u8];omega
theorem Znj {R:XRs}{k:IntKind}{z:Int}:cC R (mkI k (k.wrap z))=.lf (.int k (k.wrap z)):=Zng fun e=>by subst e;exact Yvs z
theorem Yuk {c:XC}{k:IntKind}{z:Int}(h:toI c=some (k,z)):k=.u8->0<=z/\z<256:=by
 intro e;cases c with
 | i k' z'=>cases k'<;>simp only[toI,Ka,Kb,reduceCtorEq]at h<;>(obtain⟨rfl,rfl⟩:=h;cases e)
 | y b =>
  simp only[toI,Ka,Kb]at h;rw[<-h.2];have:=b.toNat_lt;simp only[y2i];omega
 | _=>simp [toI]at h
theorem Vz {X:XSt}{S:St}(h:SimX X S){r:Nat}{p:Ag}{n:Nat×List (List D)}(hn:Cr X.roots r p=some n):Dl S.roots r p=some n:=by
 unfold Cr at hn;unfold Dl;split at hn
 ·rename_i s t xs hl;obtain⟨y,h1,h2⟩:=h.roots r s _ hl _ rfl;cases y with
  | tr a b=>obtain⟨rfl,rfl⟩:=h2;rw[h1];exact hn
  | _=>exact h2.elim
 ·rename_i s t xs hl;obtain⟨y,h1,h2⟩:=h.roots r s _ hl _ rfl;cases y with
  | im a b=>obtain⟨rfl,rfl⟩:=h2;rw[h1];exact hn
  | _=>exact h2.elim
 ·simp at hn
theorem Zz {R:XRs}{r:Nat}{p:Ag}{n:Nat×List (List D)}(hn:Cr R r p=some n) (i c:Nat) :
  Cr R r (p++[(i,c)])=match (n.2[i]?).bind (·[c]?) with|some (.sl sz' es')=>some (sz',es')|_=>none:=by
 unfold Cr at hn ⊢;split at hn
 ·rename_i s t xs hl;exact Zge hn i c
 ·rename_i s t xs hl;exact Zge hn i c
 ·simp at hn
theorem Pr {X:XSt}{S:St}(h:SimX X S){r s:Nat}{cs:List (Nat×XC)}(hl:lk X.roots r=some (s,.bx cs)):∃ys,get S.roots r=some (.bx ys)/\Ab WkC ys (cs.map fun e=>cC X.roots e.2):=by
 obtain⟨y,h1,h2⟩:=h.roots r s _ hl _ rfl;cases y with
 | bx ys=>exact⟨ys,h1,h2⟩
 | _=>exact h2.elim
theorem Ya7 (r:Nat) (p:Ag) (i:Nat):∀(xs ys:List D) (c:Nat),Bk r p i c (xs++ys)=Bk r p i c xs++Bk r p i (c+xs.length) ys
 | [],ys,c=>rfl
 | x::xs,ys,c=>by
  simp only[Kl,Bk,Ya7 r p i xs ys (c+1),Ke];rw[show c+1+xs.length=c+(xs.length+1) by omega]
theorem Zj5 {R:XRs}{r v:Nat}(hv:Co R r v=true) (p:Ag) (i:Nat):∀(t:Ty) (x:t.den) (c:Nat),(Cl r v p i t x c).map (cC R)=Bk r p i c (Af t x)
 | .I _,_,_=>rfl
 | .Y,_,_=>rfl
 | .B,_,_=>rfl
 | .S,_,_=>rfl
 | .L t,xs,c=>by simp [Cl,Af,Bk,toC,cC,hv]
 | .H t,none,c=>rfl
 | .H t,some xs,c=>by simp [Cl,Af,Bk,toC,cC,hv]
 | .P a b,x,c=>by
  simp only[Cl,Kaa,Zj5 hv p i a,Zj5 hv p i b,Af,Ya7,Bt]
theorem Jk (r v:Nat) (p:Ag) (i:Nat):∀(t:Ty) (x:t.den) (c:Nat),(Cl r v p i t x c).length=t.n
 | .I _,_,_=>rfl
 | .Y,_,_=>rfl
 | .B,_,_=>rfl
 | .S,_,_=>rfl
 | .L t,xs,c=>rfl
 | .H t,xs,c=>rfl
 | .P a b,x,c=>by simp only[Cl,Kz,Jk r v p i a,Jk r v p i b,Ty.n]
theorem Qc:∀(t:Ty) (x:t.den),(hsL t x).length=t.n
 | .I _,_=>rfl
 | .Y,_=>rfl
 | .B,_=>rfl
 | .S,_=>rfl
 | .L _,_=>rfl
 | .H _,_=>rfl
 | .P a b,x=>by simp only[hsL,Kz,Qc a,Qc b,Ty.n]
theorem Zfh:∀(t:Ty) (x:t.den),(hsO t x).map (·.getD true)=hsL t x
 | .I _,_=>rfl
 | .Y,_=>rfl
 | .B,_=>rfl
 | .S,_=>rfl
 | .L _,_=>rfl
 | .H _,_=>rfl
 | .P a b,x=>by simp only[hsO,Kaa,Zfh a,Zfh b,hsL]
theorem Ux {β:Type}:∀{l:List (Option Bool)}{k:Option β}{r:β},Pw l k=some r->Um (l.map (·.getD true))=true/\k=some r
 | [],k,r,h=>⟨rfl,h⟩
 | none::l,k,r,h=>Ux (l:=l) h
 | some b::l,k,r,h=>by
  simp only[Pw]at h;obtain⟨hb,h⟩:=Di h;subst hb;exact Ux (l:=l) h
theorem Zl2 {t:Ty}{x:t.den}{c m:Nat}:(((hsO t x).drop c).take m).map (·.getD true)=((hsL t x).drop c).take m:=by
 rw[Kib,Kkb,Zfh]
theorem Uv (r v:Nat) (p:Ag) (i:Nat):∀(t:Ty) (x:t.den) (c:Nat),(Ii r v p i t x c).length=t.n
 | .I _,_,_=>rfl
 | .Y,_,_=>rfl
 | .B,_,_=>rfl
 | .S,_,_=>rfl
 | .L t,xs,c=>rfl
 | .H t,xs,c=>rfl
 | .P a b,x,c=>by simp only[Ii,Kz,Uv r v p i a,Uv r v p i b,Ty.n]
theorem Yg:∀{l:List Bool},Um l=true->∀n:Nat,(l[n]?).getD true=true
 | [],_,n=>by simp
 | true::l,h,0=>by simp
 | true::l,h,n+1=>by simpa using Yg (l:=l) h n
 | false::l,h,n=>by simp [Um]at h
theorem Zd8 (r v:Nat) (p:Ag) (i:Nat):∀(t:Ty) (x:t.den) (c j:Nat),((hsL t x)[j]?).getD true=true->(Ii r v p i t x c)[j]? = (Cl r v p i t x c)[j]?
 | .I _,_,_,_,_=>rfl
 | .Y,_,_,_,_=>rfl
 | .B,_,_,_,_=>rfl
 | .S,_,_,_,_=>rfl
 | .L t,xs,c,_,_=>rfl
 | .H t,some xs,c,_,_=>rfl
 | .H t,none,c,0,h=>by simp [hsL,G7]at h
 | .H t,none,c,j+1,h=>by simp [Ii,Cl]
 | .P a b,x,c,j,h=>by
  simp only[Ii,Cl,hsL]at h ⊢;by_cases hj:j<a.n
  ·rw[Kva (by rw[Qc];exact hj)]at h;rw[Kva (by rw[Uv];exact hj),Kva (by rw[Jk];exact hj),Zd8 r v p i a x.1 c j h]
  ·rw[Kla (by rw[Qc];omega),Qc]at h;rw[Kla (by rw[Uv];omega),Kla (by rw[Jk];omega),Uv,Jk,Zd8 r v p i b x.2 _ _ h]
theorem Zj4 (r v:Nat) (p:Ag) (i:Nat) (t:Ty) (x:t.den) (c0 c m:Nat) (h:Um (((hsL t x).drop c).take m)=true):((Ii r v p i t x c0).drop c).take m=((Cl r v p i t x c0).drop c).take m:=by
 refine Kbd fun j=>?_;have h1:=Yg h j;rw[Kza,Kza];rw[Kza]at h1;by_cases hj:j<m
 ·rw[if_pos hj,if_pos hj,Kdb,Kdb];rw[if_pos hj,Kdb]at h1;exact Zd8 r v p i t x c0 (c+j) h1
 ·rw[if_neg hj,if_neg hj]
theorem Zeb {R:XRs}{nx st r v:Nat}(hr:r<nx) (hv:v<st){p:Ag}{i sz:Nat}{l:List (List D)}{e:List D}(hn:Co R r v=true->Cr R r p=some (sz,l)/\l[i]? = some e):∀(t:Ty) (x:t.den) (c:Nat),(∀(j:Nat) (d:D),(Af t x)[j]? = some d->e[c+j]? = some d)->∀y∈Cl r v p i t x c,okC R nx st y
 | .I _,_,_,_,y,hy=>by simp only[Cl,Kta]at hy;subst hy;trivial
 | .Y,_,_,_,y,hy=>by simp only[Cl,Kta]at hy;subst hy;trivial
 | .B,_,_,_,y,hy=>by simp only[Cl,Kta]at hy;subst hy;trivial
 | .S,_,_,_,y,hy=>by simp only[Cl,Kta]at hy;subst hy;trivial
 | .L t,xs,c,he,y,hy=>by
  simp only[Cl,Kta]at hy;subst hy;refine⟨hr,hv,fun hk=>?_⟩;obtain⟨h1,h2⟩:=hn hk;have h3:=Zz h1 i c;simp only[h2,Kra]at h3;rw[show e[c]? = some (.sl t.n (xs.map (Af t))) from he 0 _ rfl]at h3;exact⟨_,h3,by simp,by rw[Kv,Kob (by simp)]⟩
 | .H t,none,c,he,y,hy=>by
  simp only[Cl,Kta]at hy;subst hy;trivial
 | .H t,some xs,c,he,y,hy=>by
  simp only[Cl,Kta]at hy;subst hy;refine⟨hr,hv,fun hk=>?_⟩;obtain⟨h1,h2⟩:=hn hk;have h3:=Zz h1 i c;simp only[h2,Kra]at h3;rw[show e[c]? = some (.sl t.n (xs.map (Af t))) from he 0 _ rfl]at h3;exact⟨_,h3,by simp,by rw[Kv,Kob (by simp)]⟩
 | .P a b,x,c,he,y,hy=>by
  simp only[Cl,Kia]at hy;rcases hy with hy|hy
  ·refine Zeb hr hv hn a x.1 c (fun j d hd=>he j d ?_) y hy;simp only[Af];rw[Kva (Kja.1 hd).1];exact hd
  ·refine Zeb hr hv hn b x.2 _ (fun j d hd=>?_) y hy;rw[show c+a.n+j=c+(a.n+j) by omega];refine he _ d ?_;simp only[Af];rw[Kla (by rw[Bt];omega),Bt,Kdg];exact hd
theorem Zqh {β:Type}{R:XRs}{nx st:Nat}{c:XC}{k:(t:Ty)->List t.den->Option β}{out:β}(hc:okC R nx st c) (h:O5 R c k=some out) :
  ∃(t:Ty) (ws:List t.den) (r:Nat) (p:Ag) (lo:Nat) (l:List (List D)),k t ws=some out/\r<nx/\cC R c=.rf r p t.n lo ws.length/\Cr R r p=some (t.n,l)/\lo+ws.length<=l.length/\(l.drop lo).take ws.length=ws.map (Af t):=by
 unfold O5 at h;split at h
 ·rename_i r;split at h
  ·rename_i s t xs hl;exact⟨t,xs,r,[],0,_,h,hc,by simp [cC,hl],by simp only[Cr,hl];rfl,by simp,by rw[Kv,Kob (by simp)]⟩
  ·rename_i s t xs hl;exact⟨t,xs,r,[],0,_,h,hc,by simp [cC,hl],by simp only[Cr,hl];rfl,by simp,by rw[Kv,Kob (by simp)]⟩
  ·simp at h
 ·rename_i r lo n;split at h
  ·rename_i s t xs hl;obtain⟨h1,h2⟩:=Di h;simp only[I2,decide_eq_true_eq]at h1;have hlen:(A9 n (Dk lo xs)).length=n:=by simp [A9,Dk];omega
   refine⟨t,_,r,[],lo,_,h2,hc, ?_,by simp only[Cr,hl];rfl,by rw[hlen];simpa using h1,by rw[hlen];simp [A9,Dk]⟩;rw[hlen];simp [cC,hl]
  ·rename_i s t xs hl;obtain⟨h1,h2⟩:=Di h;simp only[I2,decide_eq_true_eq]at h1;have hlen:(A9 n (Dk lo xs)).length=n:=by simp [A9,Dk];omega
   refine⟨t,_,r,[],lo,_,h2,hc, ?_,by simp only[Cr,hl];rfl,by rw[hlen];simpa using h1,by rw[hlen];simp [A9,Dk]⟩;rw[hlen];simp [cC,hl]
  ·simp at h
 ·rename_i r v p lo t ws;split at h
  ·rename_i hv;obtain⟨a1,a2,a3⟩:=hc;obtain⟨l,b1,b2,b3⟩:=a3 hv;exact⟨t,ws,r,p,lo,l,h,a1,by simp [cC,hv],b1,b2,b3⟩
  ·simp at h
 ·simp at h
theorem Yq {R:XRs}{y:V}{x:XV}(h:WkV y (cV R x)){cs:List XC}(hc:Hr x=some cs):∃ys,Pt y=some ys/\Ab WkC ys (cs.map (cC R))/\∀zs:List C,True:=by
 cases x with
 | a x =>
  cases y with
  | a y =>
   cases x with
   | c x =>
    cases y with
    | c y=>simp only[Hr,Ka]at hc;subst hc;exact⟨[y],rfl,⟨h,trivial⟩,fun _=>trivial⟩
    | ag _=>exact h.elim
   | ag xs =>
    cases y with
    | c y=>exact h.elim
    | ag ys=>simp only[Hr,Ka]at hc;subst hc;exact⟨ys,rfl,h,fun _=>trivial⟩
  | _=>exact h.elim
 | _=>simp [Hr]at hc
theorem Iy {n:Nat}:∀{ys xs:List C},Ab WkC ys xs->Ab WkC (ys.drop n) (xs.drop n):=by
 induction n with
 | zero=>exact fun h=>h
 | succ n ih=>intro ys xs h;match ys,xs,h with
  | [],[],_=>trivial
  | _::ys,_::xs,h=>exact ih h.2
theorem Je {n:Nat}:∀{ys xs:List C},Ab WkC ys xs->Ab WkC (ys.take n) (xs.take n):=by
 induction n with
 | zero=>intro ys xs _;trivial
 | succ n ih=>intro ys xs h;match ys,xs,h with
  | [],[],_=>trivial
  | _::ys,_::xs,h=>exact⟨h.1,ih h.2⟩
theorem M5:∀{ys xs ys' xs':List C},Ab WkC ys xs->Ab WkC ys' xs'->Ab WkC (ys++ys') (xs++xs')
 | [],[],_,_,_,h=>h
 | _::ys,_::xs,_,_,h,h'=>⟨h.1,M5 h.2 h'⟩
 | [],_::_,_,_,h,_=>h.elim
 | _::_,[],_,_,h,_=>h.elim
theorem Zln {X:XSt}{S:St}(hX:XOk X) (h:SimX X S):∀(parts:List (Nat×Nat×Opd)) (cs:List XC) (ys:List C) (out:List XC),Ab WkC ys (cs.map (cC X.roots))->(∀c∈cs,okC X.roots X.next X.stamp c)->U7 X cs parts=some out ->
  ∃zs,G2 S ys parts=some zs/\Ab WkC zs (out.map (cC X.roots))/\(∀c∈out,okC X.roots X.next X.stamp c)
 | [],cs,ys,out,hw,ho,hf=>by
  simp only[U7,Ka]at hf;subst hf;exact⟨ys,rfl,hw,ho⟩
 | (off,sz,x)::parts,cs,ys,out,hw,ho,hf=>by
  simp only[U7]at hf;split at hf
  ·rename_i us hu;split at hf
   ·rename_i hb;simp only[Kd]at hb;have hb1:=Kr hb.1;have hb2:=Kea hb.2;obtain⟨vs,h1,h2,_⟩:=Yq (Gq h x) hu;have l1:=h2.length;have l2:=hw.length;simp only[Kt]at l1 l2;have hok:=Fb hX x;have:=Zln hX h parts _ (ys.take off++(vs++ys.drop (off+sz))) out ?_ ?_ hf
    ·obtain⟨zs,e1,e2⟩:=this;refine⟨zs, ?_,e2⟩;simp only[G2,h1];rw[if_pos ⟨by omega,by omega⟩];exact e1
    ·simp only[Kaa,Kib,Kkb];exact M5 (Je hw) (M5 h2 (Iy hw))
    ·intro c hc;simp only[Kia]at hc;rcases hc with hc|hc|hc
     ·exact ho c (Kpb hc)
     ·generalize X.opd x=v at hu hok;cases v with
      | a v=>cases v with
       | c v=>simp only[Hr,Ka]at hu;subst hu;simp only[Kta]at hc;subst hc;exact hok
       | ag v=>simp only[Hr,Ka]at hu;subst hu;exact hok c hc
      | _=>simp [Hr]at hu
     ·exact ho c (Knb hc)
   ·simp at hf
  ·simp at hf
theorem N8 {X:XSt}{S:St}(h:SimX X S){x:Opd}{z:Int}(hx:Lj (X.opd x)=some z):∃k,S.opd x=.a (.c (.lf (.int k z))):=by
 unfold Lj at hx;split at hx
 ·rename_i c hc;split at hx
  ·rename_i k z' ht;simp only[Ka]at hx;subst hx;refine⟨k, ?_⟩;rw[Bj h hc (by rw[Mz ht];simp),Mz ht]
  ·simp at hx
 ·simp at hx
theorem Vx {X:XSt}{S:St}(h:SimX X S){x:Option Opd}{z:Option Int}(hx:mbI X x=some z):(x=none/\z=none)\/∃k w,z=some w/\x.map S.opd=some (.a (.c (.lf (.int k w)))):=by
 cases x with
 | none=>simp only[mbI,Ka]at hx;exact .inl ⟨rfl,hx.symm⟩
 | some x =>
  simp only[mbI]at hx;split at hx
  ·rename_i w hw;simp only[Ka]at hx;subst hx;obtain⟨k,hk⟩:=N8 h hw;exact .inr ⟨k,w,rfl,by simp [hk]⟩
  ·simp at hx
theorem Zlm (l:List UInt8) (a b:Nat):(⟨l.toArray⟩:ByteArray).extract a b=⟨((l.drop a).take (b-a)).toArray⟩:=ByteArray.extract_mk l a b
theorem Th (l:List UInt8):(⟨l.toArray⟩:ByteArray).size=l.length:=rfl
theorem Yt2 (l:List UInt8) (n:Nat):(⟨l.toArray⟩:ByteArray)[n]? = l[n]?:=by
 by_cases h:n<l.length
 ·rw[Ku h,ByteArray.getElem?_lt' _ _ h];rfl
 ·rw[Kuc (by omega),ByteArray.getElem?_ge' _ _ h]
theorem Yt1 (a b:List UInt8):(⟨a.toArray⟩:ByteArray)++⟨b.toArray⟩=⟨(a++b).toArray⟩:=ByteArray.mk_append_mk a b
theorem Yt3 (a:List UInt8):(⟨a.toArray⟩:ByteArray).toList=a:=ByteArray.toList_mk a
end Go.Vs
namespace Go.Vs
variable [Glb]
def Pn {β:Type}(X:XSt) (S:St) (i:I) (k:XV->Option β) (out:β):Prop :=
 ∃xv,k xv=some out/\okV X.roots X.next X.stamp xv/\∃v,WkV v (cV X.roots xv)/\∀K:V->Prop,K v->ev S K i
section
variable {β:Type} {X:XSt} {S:St} {out:β}
theorem Ct {i:I}{k:XV->Option β}{c:XC}(h1:k (.a (.c c))=some out) (h2:okC X.roots X.next X.stamp c) (h3:∀K:V->Prop,K (.a (.c (cC X.roots c)))->ev S K i):Pn X S i k out :=
 ⟨_,h1,h2,.a (.c (cC X.roots c)),WkC.refl _,h3⟩
theorem Yui {a b:Int}(ha:0<=a/\a<256):0<=a.tmod b/\a.tmod b<256:=by
 have h1:=Int.tmod_nonneg b ha.1;have h2:a.tmod b<=a:=by
  rw[Int.tmod_def];have:=Int.le_of_lt_add_one (a:=0) (b:=a) (by omega);have h3:0<=b*a.tdiv b:=by
   rcases Int.le_total 0 b with hb|hb
   ·exact Int.mul_nonneg hb (Int.tdiv_nonneg ha.1 hb)
   ·exact Int.mul_nonneg_of_nonpos_of_nonpos hb (Int.tdiv_nonpos_of_nonneg_of_nonpos ha.1 hb)
  omega
 omega
theorem Yis {a:Int}{n:Nat}(ha:0<=a/\a<256):0<=a.fdiv (2^n)/\a.fdiv (2^n)<256:=by
 have hp:(0:Int)<2^n:=Int.pow_pos (by omega);rw[Int.fdiv_eq_ediv_of_nonneg _ (Int.le_of_lt hp)];exact⟨Int.ediv_nonneg ha.1 (Int.le_of_lt hp),Int.lt_of_le_of_lt (Int.ediv_le_self _ ha.1) ha.2⟩
theorem Ytf {R:XRs}{op:BinOp}{a b:List UInt8}{c:XC}(h:Zaq op a b=some c):∃r,Og op (.string ⟨a.toArray⟩) (.string ⟨b.toArray⟩)=some r/\cC R c=.lf r:=by
 cases op<;>simp only[Zaq,Ka,reduceCtorEq]at h<;>(subst h;refine⟨_,rfl, ?_⟩;simp only[Yt3];rfl)
theorem Ydu {R:XRs}{op:BinOp}{k1 k2:IntKind}{a b:Int}{c:XC}(hk:(kEq k1 k2||!Zjt op)=true) (hb:Zjs op b=true) (hr:k1=.u8->0<=a/\a<256) (h:Yk op k1 a b=some c):∃r,Og op (.int k1 a) (.int k2 b)=some r/\cC R c=.lf r:=by
 cases op<;>simp only[Yk,Ka,reduceCtorEq]at h<;>subst h<;>simp only[Zjs,iLe,iNe,bne_iff_ne,ne_eq,decide_eq_true_eq]at hb <;>
  simp only[Zjt,kEq,Kld,Kwd,Bool.or_false,Bool.or_true,decide_eq_true_eq]at hk<;>(try subst hk)<;>simp only[Og,if_true,hb,not_false_eq_true,and_self]
 all_goals first|refine⟨_,rfl, ?_⟩|refine⟨_,if_pos ⟨trivial,hb⟩, ?_⟩
 all_goals first
  | exact Znj
  | rfl
  | exact Zng fun e=>Yui (hr e)
  | exact Zng fun e=>Yis (hr e)
theorem Ydt {R:XRs}{nx st:Nat}{op:BinOp}{k1:IntKind}{a b:Int}{c:XC}(h:Yk op k1 a b=some c):okC R nx st c:=by
 cases op<;>simp only[Yk,Ka,reduceCtorEq]at h<;>subst h<;>first|exact Znh|trivial
theorem Yte {R:XRs}{nx st:Nat}{op:BinOp}{a b:List UInt8}{c:XC}(h:Zaq op a b=some c):okC R nx st c:=by
 cases op<;>simp only[Zaq,Ka,reduceCtorEq]at h<;>subst h<;>trivial
theorem Ypy (hX:XOk X) (hS:SimX X S){op:BinOp}{x y:Opd}{u v:XC}{k:XV->Option β}(hu:X.opd x=.a (.c u)) (hv:X.opd y=.a (.c v)) (h:Zm3 op u v (fun c=>k (.a (.c c)))=some out):Pn X S (.bin op x y) k out:=by
 unfold Zm3 at h;split at h
 ·rename_i a b;have e1:=Bj hS hu (by simp [cC]);have e2:=Bj hS hv (by simp [cC]);split at h
  ·rename_i hop;obtain⟨h1,h2⟩:=Di h;simp only[Wj,decide_eq_true_eq]at h1;refine Ct h2 trivial fun K hK=>?_;simp only[ev,e1,e2,cC];cases op<;>simp [Zvp]at hop
   refine⟨_, ?_,hK⟩;simp only[Og];rw[if_pos (by rw[Th,Th];exact h1),Yt1];rfl
  ·split at h
   ·rename_i c hc;refine Ct h (Yte hc) fun K hK=>?_;obtain⟨r,h1,h2⟩:=Ytf (R:=X.roots) hc;rw[h2]at hK;simp only[ev,e1,e2,cC];exact⟨r,h1,hK⟩
   ·simp at h
 ·split at h
  ·rename_i k1 a k2 b h1 h2;split at h
   ·rename_i hk;obtain⟨hc,h⟩:=Di h;split at h
    ·rename_i c hb;have e1:=Bj hS hu (by rw[Mz h1];simp);have e2:=Bj hS hv (by rw[Mz h2];simp);rw[Mz h1]at e1;rw[Mz h2]at e2;refine Ct h (Ydt hb) fun K hK=>?_;obtain⟨r,h1,h2⟩:=Ydu (R:=X.roots) hk hc (Yuk h1) hb;rw[h2]at hK;simp only[ev,e1,e2];exact⟨r,h1,hK⟩
    ·simp at h
   ·simp at h
  ·simp at h
theorem Zbe {l h n:Int}(k:Cp l h n=true):0<=l/\l<=h/\h<=n:=by simpa [Cp] using k
theorem Yae (l:Option Int):st0 l=nOf (l.getD 0):=by cases l<;>rfl
theorem Yaa {α:Type}{ws:List α}{l h:Int}(k:0<=l/\l<=h/\h<=(ws.length:Int)):(A9 (nOf h-nOf l) (Dk (nOf l) ws)).length=h.toNat-l.toNat:=by
 simp only[A9,Dk,nOf,Kab,Kpa];omega
theorem Ze2 {z0:Nat}{x:Opd}{lo hi:Option Opd}{r:Nat}{p:Ag}{l0 n:Nat}{xl:Option Int}{xh:Option Int}(hx:S.opd x=.a (.c (.rf r p z0 l0 n))) (hl:(lo=none/\xl=none)\/∃k w,xl=some w/\lo.map S.opd=some (.a (.c (.lf (.int k w))))) (hh:(hi=none/\xh=none)\/∃k w,xh=some w/\hi.map S.opd=some (.a (.c (.lf (.int k w)))))
  (hw:0<=xl.getD 0/\xl.getD 0<=xh.getD n/\xh.getD n<=n) {K:V->Prop} (hK:K (.a (.c (.rf r p z0 (l0+(xl.getD 0).toNat) ((xh.getD n).toNat-(xl.getD 0).toNat))))):ev S K (.slc z0 x lo hi):=by
 rcases hl with ⟨rfl,rfl⟩|⟨k1,w1,rfl,e1⟩<;>rcases hh with ⟨rfl,rfl⟩|⟨k2,w2,rfl,e2⟩
 ·simp only[ev,hx,Kub,Kye]at hK ⊢;simpa using hK
 ·simp only[ev,hx,Kub,e2,Kye,Klb]at hK hw ⊢;exact⟨trivial,⟨by omega,hw.2.2⟩,by simpa using hK⟩
 ·simp only[ev,hx,Kub,e1,Kye,Klb,Kxb]at hK hw ⊢;exact⟨trivial,⟨hw.1,hw.2.1⟩,hK⟩
 ·simp only[ev,hx,e1,e2,Klb]at hK hw ⊢;exact⟨trivial,hw,hK⟩
theorem Ytp (hX:XOk X) (hS:SimX X S){z0:Nat}{x:Opd}{lo hi:Option Opd}{c:XC}{xl xh:Option Int}{k:XV->Option β}(hx:X.opd x=.a (.c c)) (hl:mbI X lo=some xl) (hh:mbI X hi=some xh) (h:Zo9 X.roots z0 c xl xh (fun c=>k (.a (.c c)))=some out):Pn X S (.slc z0 x lo hi) k out:=by
 have hok:okC X.roots X.next X.stamp c:=by have:=Fb hX x;rw[hx]at this;exact this
 have L:=Vx hS hl;have H:=Vx hS hh;unfold Zo9 at h;simp only[Yae]at h;split at h
 ·rename_i r;split at h
  ·rename_i s t xs hr;split at h
   ·rename_i hz;have hz:=Kr hz;subst hz;obtain⟨h1,h2⟩:=Di h;have h1:=Zbe h1;refine Ct h2 hok fun K hK=>?_;simp only[cC,hr]at hK;have hxS:S.opd x=.a (.c (.rf r [] t.n 0 xs.length)):=by rw[Bj hS hx (by simp [cC,hr])];simp only[cC,hr]
    exact Ze2 hxS L H h1 (by simpa [nOf,Ae] using hK)
   ·simp at h
  ·rename_i v t xs hr;split at h
   ·rename_i hz;have hz:=Kr hz;subst hz;obtain⟨h1,h2⟩:=Di h;have h1:=Zbe h1;have hv:Co X.roots r v=true:=Ly hr;have hlen:=Yaa (ws:=xs) h1;have hnode:Cr X.roots r []=some (t.n,xs.map (Af t)):=by simp only[Cr,hr];rfl
    simp only[Ae]at h1 h2 hlen;refine Ct h2 ⟨hok,(hX.ids r v _ hr).2,fun _=>⟨_,hnode, ?_, ?_⟩⟩ fun K hK=>?_
    ·rw[hlen];simp only[nOf,Kt];omega
    ·rw[hlen];simp only[A9,Dk,nOf,Kib,Kkb]
    ·simp only[cC,hv,hlen]at hK;have hxS:S.opd x=.a (.c (.rf r [] t.n 0 xs.length)):=by rw[Bj hS hx (by simp [cC,hr])];simp only[cC,hr]
     exact Ze2 hxS L H h1 (by simpa [nOf,Ae] using hK)
   ·simp at h
  ·simp at h
 ·rename_i r l0 n;split at h
  ·rename_i s t xs hr;split at h
   ·rename_i hz;have hz:=Kr hz;subst hz;obtain⟨h1,h2⟩:=Di h;have h1:=Zbe h1;refine Ct h2 hok fun K hK=>?_;simp only[cC,hr]at hK;exact Ze2 (by rw[Bj hS hx (by simp [cC,hr])];simp only[cC,hr]) L H h1 hK
   ·simp at h
  ·simp at h
 ·rename_i r v p l0 t ws;split at h
  ·rename_i hz;simp only[Kd]at hz;obtain⟨hv,hz⟩:=hz;have hz:=Kr hz;subst hz;obtain⟨h1,h2⟩:=Di h;have h1:=Zbe h1;have hlen:=Yaa (ws:=ws) h1;simp only[Ae]at h1 h2 hlen;obtain⟨a1,a2,a3⟩:=hok;obtain⟨l,b1,b2,b3⟩:=a3 hv;refine Ct h2 ⟨a1,a2,fun _=>⟨l,b1, ?_, ?_⟩⟩ fun K hK=>?_
   ·rw[hlen];simp only[nOf];omega
   ·rw[hlen];simp only[A9,Dk,nOf,Kib,Kkb,<-b3];rw[List.drop_take,List.take_take,Ked];congr 1;omega
   ·simp only[cC,hv,hlen]at hK;exact Ze2 (by rw[Bj hS hx (by simp [cC,hv])];simp only[cC,hv]) L H h1 hK
  ·simp at h
 ·simp at h
theorem Yfb {α:Type}{l:List α}{lo n:Nat}{ws:List (List D)}{l':List (List D)}{i:Nat}{e:List D}(h:(l'.drop lo).take n=ws) (hi:ws[i]? = some e):l'[lo+i]? = some e:=by
 subst h;rw[Kza]at hi;split at hi
 ·simpa using hi
 ·simp at hi
theorem Ze1 {sz:Nat}{x j:Opd}{r:Nat}{p:Ag}{lo n:Nat}{kd:IntKind}{z:Int}(hx:S.opd x=.a (.c (.rf r p sz lo n))) (hj:S.opd j=.a (.c (.lf (.int kd z)))) (h0:0<=z) (h1:z.toNat<n){K:V->Prop}(hK:K (.a (.c (.pe r p (lo+z.toNat) 0)))):ev S K (.iad sz x j):=by
 simp only[ev,hx,hj];exact⟨trivial,⟨h0,by omega⟩,hK⟩
theorem Ypa (hX:XOk X) (hS:SimX X S){sz:Nat}{x j:Opd}{c:XC}{z:Int}{k:XV->Option β}(hx:X.opd x=.a (.c c)) (hj:Lj (X.opd j)=some z) (h:Zmc X.roots sz c z (fun c=>k (.a (.c c)))=some out):Pn X S (.iad sz x j) k out:=by
 have hok:okC X.roots X.next X.stamp c:=by have:=Fb hX x;rw[hx]at this;exact this
 obtain⟨kd,J⟩:=N8 hS hj;unfold Zmc at h;split at h
 ·rename_i r;split at h
  ·rename_i v t xs hr;split at h
   ·rename_i hz;have hz:=Kr hz;subst hz;obtain⟨e,h1,h2⟩:=F5 h;obtain⟨h0,h1⟩:=Vj h1;have hv:Co X.roots r v=true:=Ly hr;have hnode:Cr X.roots r []=some (t.n,xs.map (Af t)):=by simp only[Cr,hr];rfl
    have hxS:S.opd x=.a (.c (.rf r [] t.n 0 xs.length)):=by rw[Bj hS hx (by simp [cC,hr])];simp only[cC,hr]
    refine Ct h2 ⟨hok,(hX.ids r v _ hr).2,fun _=>⟨_,hnode, ?_⟩⟩ fun K hK=>?_
    ·rw[Kga,nOf,h1];rfl
    ·simp only[cC,hv]at hK;exact Ze1 hxS J h0 (Kja.1 h1).1 (by simpa [nOf] using hK)
   ·simp at h
  ·rename_i v t xs hr;split at h
   ·rename_i hz;have hz:=Kr hz;subst hz;obtain⟨e,h1,h2⟩:=F5 h;obtain⟨h0,h1⟩:=Vj h1;have hv:Co X.roots r v=true:=Ly hr;have hnode:Cr X.roots r []=some (t.n,xs.map (Af t)):=by simp only[Cr,hr];rfl
    have hxS:S.opd x=.a (.c (.rf r [] t.n 0 xs.length)):=by rw[Bj hS hx (by simp [cC,hr])];simp only[cC,hr]
    refine Ct h2 ⟨hok,(hX.ids r v _ hr).2,fun _=>⟨_,hnode, ?_⟩⟩ fun K hK=>?_
    ·rw[Kga,nOf,h1];rfl
    ·simp only[cC,hv]at hK;exact Ze1 hxS J h0 (Kja.1 h1).1 (by simpa [nOf] using hK)
   ·simp at h
  ·simp at h
 ·rename_i r lo n;split at h
  ·rename_i v t xs hr;split at h
   ·rename_i hz;have hz:=Kr hz;subst hz;obtain⟨hlt,h⟩:=Di h;simp only[iLt,decide_eq_true_eq,Keg]at hlt;obtain⟨e,h1,h2⟩:=F5 h;obtain⟨h0,h1⟩:=Vj h1;have hv:Co X.roots r v=true:=Ly hr;have hnode:Cr X.roots r []=some (t.n,xs.map (Af t)):=by simp only[Cr,hr];rfl
    have hxS:S.opd x=.a (.c (.rf r [] t.n lo n)):=by rw[Bj hS hx (by simp [cC,hr])];simp only[cC,hr]
    refine Ct h2 ⟨hok,(hX.ids r v _ hr).2,fun _=>⟨_,hnode, ?_⟩⟩ fun K hK=>?_
    ·simp only[Dk,Kdb]at h1;rw[Kga,nOf,h1];rfl
    ·simp only[cC,hv]at hK;exact Ze1 hxS J h0 (by omega) hK
   ·simp at h
  ·simp at h
 ·rename_i r v p lo t ws;split at h
  ·rename_i hz;simp only[Kd]at hz;obtain⟨hv,hz⟩:=hz;have hz:=Kr hz;subst hz;obtain⟨e,h1,h2⟩:=F5 h;obtain⟨h0,h1⟩:=Vj h1;obtain⟨a1,a2,a3⟩:=hok;obtain⟨l,b1,b2,b3⟩:=a3 hv;have hxS:S.opd x=.a (.c (.rf r p t.n lo ws.length)):=by rw[Bj hS hx (by simp [cC,hv])];simp only[cC,hv]
   refine Ct h2 ⟨a1,a2,fun _=>⟨l,b1, ?_⟩⟩ fun K hK=>?_
   ·refine Yfb (α:=Nat) (l:=[]) b3 ?_;rw[Kga,nOf,h1];rfl
   ·simp only[cC,hv]at hK;exact Ze1 hxS J h0 (Kja.1 h1).1 hK
  ·simp at h
 ·simp at h
theorem Yp1 (hX:XOk X) (hS:SimX X S){x:Opd}{c:XC}{k:XV->Option β}(hx:X.opd x=.a (.c c)) (h:Zm5 X.roots c (fun z=>k (.a (.c (.i .i64 z))))=some out):Pn X S (.len x) k out:=by
 unfold Zm5 at h;split at h
 ·refine Ct h trivial fun K hK=>?_;simp only[ev,Bj hS hx (by simp [cC])];exact hK
 ·rename_i r;split at h
  ·rename_i v t xs hr;refine Ct h trivial fun K hK=>?_;have hxS:S.opd x=.a (.c (.rf r [] t.n 0 xs.length)):=by rw[Bj hS hx (by simp [cC,hr])];simp only[cC,hr]
   simp only[ev,hxS];exact hK
  ·rename_i v t xs hr;refine Ct h trivial fun K hK=>?_;have hxS:S.opd x=.a (.c (.rf r [] t.n 0 xs.length)):=by rw[Bj hS hx (by simp [cC,hr])];simp only[cC,hr]
   simp only[ev,hxS];exact hK
  ·simp at h
 ·rename_i r lo n;split at h
  ·rename_i v t xs hr;refine Ct h trivial fun K hK=>?_;have hxS:S.opd x=.a (.c (.rf r [] t.n lo n)):=by rw[Bj hS hx (by simp [cC,hr])];simp only[cC,hr]
   simp only[ev,hxS];exact hK
  ·rename_i v t xs hr;refine Ct h trivial fun K hK=>?_;have hxS:S.opd x=.a (.c (.rf r [] t.n lo n)):=by rw[Bj hS hx (by simp [cC,hr])];simp only[cC,hr]
   simp only[ev,hxS];exact hK
  ·simp at h
 ·rename_i r v p lo t ws;split at h
  ·rename_i hv;refine Ct h trivial fun K hK=>?_;have hxS:S.opd x=.a (.c (.rf r p t.n lo ws.length)):=by rw[Bj hS hx (by simp [cC,hv])];simp only[cC,hv]
   simp only[ev,hxS];exact hK
  ·simp at h
 ·simp at h
theorem Yrd (hX:XOk X) (hS:SimX X S){c a b:Opd}{t:Bool}{k:XV->Option β}(hc:X.opd c=.a (.c (.b t))) (h:Zn1 t (X.opd a) (X.opd b) k=some out):Pn X S (.pick c a b) k out:=by
 have hcS:S.opd c=.a (.c (.lf (.bool t))):=Bj hS hc (by simp [cC]);have hev:∀K:V->Prop,K (if t=true then S.opd a else S.opd b)->ev S K (.pick c a b):=by
  intro K hK;simp only[ev,hcS];cases t<;>simpa using hK
 unfold Zn1 at h;split at h
 ·rename_i x y ha hb;refine⟨_,h,trivial,_, ?_,hev⟩;have e1:=Bj hS ha (by simp [cC]);have e2:=Bj hS hb (by simp [cC]);rw[e1,e2];cases t<;>exact WkC.refl _
 ·rename_i k1 x k2 y ha hb;split at h
  ·rename_i hk;simp only[kEq,decide_eq_true_eq]at hk;subst hk;refine⟨_,h,trivial,_, ?_,hev⟩;have e1:=Bj hS ha (by simp [cC]);have e2:=Bj hS hb (by simp [cC]);rw[e1,e2];cases t<;>exact WkC.refl _
  ·simp at h
 ·rcases Zef h with ⟨rfl,h⟩|⟨rfl,h⟩
  ·exact⟨_,h,Fb hX a,_,Gq hS a,fun K hK=>hev K (by simpa using hK)⟩
  ·exact⟨_,h,Fb hX b,_,Gq hS b,fun K hK=>hev K (by simpa using hK)⟩
end
end Go.Vs
namespace Go.Vs
variable [Glb]
section
variable {β:Type} {X:XSt} {S:St} {out:β}
theorem Zrl:∀ws:List UInt8,Rt (ws.map (Af .Y))=some ws
 | []=>rfl
 | b::ws=>by
  have:=Zrl ws;simp only[Kc,Af,Rt]at this ⊢;rw[this];simp
theorem Tu:∀{ys xs:List C}{i:Nat}{x:C},Ab WkC ys xs->xs[i]? = some x->∃y,ys[i]? = some y/\WkC y x
 | [],[],i,x,_,h=>by simp at h
 | y::ys,x'::xs,0,x,h,hx=>by simp at hx;subst hx;exact⟨y,rfl,h.1⟩
 | y::ys,x'::xs,i+1,x,h,hx=>by simpa using Tu h.2 (by simpa using hx)
 | [],_::_,_,_,h,_=>h.elim
 | _::_,[],_,_,h,_=>h.elim
theorem Zqj:∀{ys xs:List A}{i:Nat}{x:A},Ab WkA ys xs->xs[i]? = some x->∃y,ys[i]? = some y/\WkA y x
 | [],[],i,x,_,h=>by simp at h
 | y::ys,x'::xs,0,x,h,hx=>by simp at hx;subst hx;exact⟨y,rfl,h.1⟩
 | y::ys,x'::xs,i+1,x,h,hx=>by simpa using Zqj h.2 (by simpa using hx)
 | [],_::_,_,_,h,_=>h.elim
 | _::_,[],_,_,h,_=>h.elim
theorem Zmk {R:XRs}:∀{cs:List XC}{l:List Int},Js cs=some l->cs.map (cC R)=l.map fun z=>C.lf (.int .i64 z)
 | [],l,h=>by simp only[Js,Ka]at h;subst h;rfl
 | c::cs,l,h=>by
  unfold Js at h;split at h
  ·rename_i heq;simp at heq
  ·rename_i z l' heq;split at h
   ·rename_i m hm;simp only[Ka]at h;subst h;cases heq;simp only[Kc,Zmk hm];rfl
   ·simp at h
  ·simp at h
theorem Zuv {R:XRs}{nx st b:Nat}{l:List UInt8}(hl:Zfd Glb.tab b=some l):∀(o m:Nat) (k:List XC->Option β),glX l o m k=some out->∃cs,k cs=some out/\(∀c∈cs,okC R nx st c)/\∃vs,Sf b o m=some vs/\cs.map (cC R)=vs.map .lf
 | o,0,k,h=>⟨[],h,by simp,[],rfl,rfl⟩
 | o,m+1,k,h=>by
  simp only[glX]at h;obtain⟨y,hy,h⟩:=F5 h;obtain⟨cs,h1,h2,vs,h3,h4⟩:=Zuv hl (o+1) m _ h;have hy':l[o]? = some y:=by simpa [idx] using hy
  refine⟨.y y::cs,h1, ?_,.int .u8 y.toNat::vs, ?_, ?_⟩
  ·intro c hc;rcases Kh.1 hc with rfl|hc
   ·trivial
   ·exact h2 c hc
  ·simp only[Sf,Fs,hl,hy',h3]
  ·simp only[Kc,h4];rfl
theorem Yp3 (hX:XOk X) (hS:SimX X S){n:Option Nat}{x:Opd}{k:XV->Option β}(h:rdX X (.load n x) k=some out):Pn X S (.load n x) k out:=by
 have hok:=Fb hX x;simp only[rdX]at h;split at h
 ·rename_i r v p i c t e hx;rw[hx]at hok;obtain⟨a1,a2,a3⟩:=hok;split at h
  ·rename_i hv;obtain⟨l,b1,b2⟩:=a3 hv;have hxS:S.opd x=.a (.c (.pe r p i c)):=by rw[Bj hS hx (by simp [cC,hv])];simp only[cC,hv]
   have hnode:S.node r p=some (t.n,l):=by rw[Qq];exact Vz hS b1
   have hcells:=Zj5 hv p i t e 0;have hcok:=Zeb (nx:=X.next) (st:=X.stamp) a1 a2 (fun _=>⟨b1,b2⟩) t e 0 (fun j d hd=>by simpa using hd);split at h
   ·obtain⟨hch,h⟩:=Ux h;rw[Zl2]at hch;have hch:=Yg hch 0;rw[Kfg (by omega),Kdb,Kw]at hch;rw[Zd8 r v p i t e 0 c hch]at h;split at h
    ·rename_i y hy;refine Ct h (hcok y (Kfa hy)) fun K hK=>?_;have h1:((Cl r v p i t e 0).map (cC X.roots))[c]? = some (cC X.roots y):=by rw[Kga,hy];rfl
     rw[hcells]at h1;have key:∀(ds:List D) (c0 c:Nat) (z:C),(Bk r p i c0 ds)[c]? = some z->∃d,ds[c]? = some d/\z=toC r p i (c0+c) d:=by
      intro ds
      induction ds with
      | nil=>intro c0 c z hz;simp [Bk]at hz
      | cons d ds ih =>
       intro c0 c z hz;cases c with
       | zero=>simp [Bk]at hz;exact⟨d,rfl,hz.symm⟩
       | succ c =>
        simp only[Bk,Ky]at hz;obtain⟨d',h1,h2⟩:=ih (c0+1) c z hz;exact⟨d',by simpa using h1,by rw[h2,show c0+1+c=c0+(c+1) by omega]⟩
     obtain⟨d,hd,hz⟩:=key _ 0 c _ h1;simp only[Km]at hz;simp only[ev,hxS];refine⟨d, ?_,by rw[<-hz];exact hK⟩;rw[hnode];simp only[Kra,b2,hd]
    ·simp at h
   ·rename_i m;split at h
    ·rename_i hm;have hm:=Kea hm;obtain⟨hch,h⟩:=Ux h;rw[Zl2]at hch;rw[Zj4 r v p i t e 0 c m hch]at h;refine⟨_,h, ?_,.a (.ag (((Cl r v p i t e 0).drop c |>.take m).map (cC X.roots))),Ab.refl WkC.refl _,fun K hK=>?_⟩
     ·intro y hy;exact hcok y (Knb (Kpb hy))
     ·simp only[ev,hxS];refine⟨Af t e,by rw[hnode];simp only[Kra,b2],by rw[Bt];exact hm, ?_⟩;have key:∀(c c0:Nat) (ds:List D),(Bk r p i c0 ds).drop c=Bk r p i (c0+c) (ds.drop c):=by
       intro c
       induction c with
       | zero=>intro c0 ds;rfl
       | succ c ih =>
        intro c0 ds;cases ds with
        | nil=>simp [Bk]
        | cons d ds =>
         simp only[Bk,Kha,ih];rw[show c0+1+c=c0+(c+1) by omega]
      have key2:∀(m c0:Nat) (ds:List D),(Bk r p i c0 ds).take m=Bk r p i c0 (ds.take m):=by
       intro m
       induction m with
       | zero=>intro c0 ds;rfl
       | succ m ih =>
        intro c0 ds;cases ds with
        | nil=>simp [Bk]
        | cons d ds=>simp only[Bk,Kda,ih]
      simp only[Kib,Kkb,hcells,key,key2,Km]at hK;exact hK
    ·simp at h
  ·simp at h
 ·rename_i r c hx;split at h
  ·rename_i s cs hr;have hxS:S.opd x=.a (.c (.pb r c)):=by rw[Bj hS hx (by simp [cC,hr])];simp only[cC,hr]
   obtain⟨ys,g1,g2⟩:=Pr hS hr;have hb:S.bcells r=some ys:=by simp [St.bcells,g1]
   split at h
   ·split at h
    ·rename_i l hl;obtain⟨e,he,h⟩:=F5 h;have hint:Js (cs.map (·.2))=some l:=by
      unfold Zrh at hl;split at hl
      ·exact hl
      ·simp at hl
     have hi:=Zmk (R:=X.roots) hint;have hc:(cs.map fun e=>cC X.roots e.2)[c]? = some (.lf (.int .i64 e)):=by
      have:(cs.map fun e=>cC X.roots e.2)=(cs.map (·.2)).map (cC X.roots):=by rw[Krb];rfl
      rw[this,hi,Kga];have he':l[c]? = some e:=by simpa [idx] using he
      rw[he'];rfl
     obtain⟨z,z1,z2⟩:=Tu (i:=c) g2 hc;refine⟨_,h,trivial,.a (.c z),z2,fun K hK=>?_⟩;simp only[ev,hxS];exact⟨z,by rw[hb];exact z1,hK⟩
    ·split at h
     ·rename_i y hy;obtain⟨z,z1,z2⟩:=Tu (i:=c) (x:=cC X.roots y.2) g2 (by rw[Kga,hy];rfl);refine⟨_,h,(hX.box r s cs hr y (Kfa hy)).2,.a (.c z),z2,fun K hK=>?_⟩;simp only[ev,hxS];exact⟨z,by rw[hb];exact z1,hK⟩
     ·simp at h
   ·rename_i m;split at h
    ·rename_i hm;have hm:=Kea hm;refine⟨_,h, ?_,.a (.ag ((ys.drop c).take m)), ?_,fun K hK=>?_⟩
     ·intro y hy;obtain⟨e,he,rfl⟩:=Kca.1 hy;exact (hX.box r s cs hr e (Knb (Kpb he))).2
     ·have:=Je (n:=m) (Iy (n:=c) g2);simp only[cV,cA,WkV,WkA,Krb];rw[<-Kkb,<-Kib]at this;exact this
     ·simp only[ev,hxS];have:=g2.length;simp only[Kt]at this;exact⟨ys,hb,by omega,hK⟩
    ·simp at h
  ·simp at h
 ·rename_i b o hx;have hxS:S.opd x=.a (.c (.lf (.pointer (some ⟨b,o,none⟩)))):=by rw[Bj hS hx (by simp [cC])];rfl
  split at h
  ·rename_i l hl;split at h
   ·obtain⟨y,hy,h⟩:=F5 h;refine Ct h trivial fun K hK=>?_;simp only[ev,hxS];have hy':l[o]? = some y:=by simpa [idx] using hy
    exact⟨.int .u8 y.toNat,by simp only[Fs,hl,hy'],hK⟩
   ·rename_i m;obtain⟨cs,h,h1,vs,h2,h3⟩:=Zuv (R:=X.roots) (nx:=X.next) (st:=X.stamp) hl o m _ h;refine⟨_,h,h1,.a (.ag (cs.map (cC X.roots))),Ab.refl WkC.refl _,fun K hK=>?_⟩;simp only[ev,hxS];exact⟨vs,h2,by rw[<-h3];exact hK⟩
  ·simp at h
 ·simp at h
theorem Yip {x:Opd}{lo hi:Option Opd}{s:List UInt8}{xl xh:Option Int}(hx:S.opd x=.a (.c (.lf (.string ⟨s.toArray⟩)))) (hl:(lo=none/\xl=none)\/∃k w,xl=some w/\lo.map S.opd=some (.a (.c (.lf (.int k w))))) (hh:(hi=none/\xh=none)\/∃k w,xh=some w/\hi.map S.opd=some (.a (.c (.lf (.int k w)))))
  (hs:(lo.isSome||hi.isSome)=true) (hw:0<=xl.getD 0/\xl.getD 0<=xh.getD s.length/\xh.getD s.length<=s.length) {K:V->Prop} (hK:K (.a (.c (.lf (.string ⟨((s.drop (xl.getD 0).toNat).take ((xh.getD s.length).toNat-(xl.getD 0).toNat)).toArray⟩))))):ev S K (.ssl x lo hi):=by
 rcases hl with ⟨rfl,rfl⟩|⟨k1,w1,rfl,e1⟩<;>rcases hh with ⟨rfl,rfl⟩|⟨k2,w2,rfl,e2⟩
 ·simp at hs
 ·simp only[ev,hx,Kub,e2,Kye,Klb,Th]at hK hw ⊢;refine⟨⟨by omega,hw.2.2⟩, ?_⟩;rw[Zlm];simpa using hK
 ·simp only[ev,hx,Kub,e1,Kye,Klb,Th,Kxb]at hK hw ⊢;refine⟨⟨hw.1,hw.2.1⟩, ?_⟩;rw[Zlm];exact hK
 ·simp only[ev,hx,e1,e2,Klb,Th]at hK hw ⊢;refine⟨hw, ?_⟩;rw[Zlm];exact hK
theorem Zm6:∀l:List Int,Zq l=l.length
 | []=>rfl
 | _::l=>by simp only[Zq,Zm6 l,Ke]
theorem Zmj {R:XRs}:∀{cs:List XC}{us:List Int}{ys:List C},Js cs=some us->Ab WkC ys (cs.map (cC R))->ys=us.map (fun z=>C.lf (.int .i64 z))
 | [],us,ys,h,w=>by
  simp only[Js,Ka]at h;subst h;cases ys with
  | nil=>rfl
  | cons _ _=>exact w.elim
 | c::cs,us,ys,h,w=>by
  cases ys with
  | nil=>exact w.elim
  | cons y ys =>
   unfold Js at h;split at h
   ·rename_i heq;cases heq
   ·rename_i heq;simp only[List.cons.injEq]at heq;obtain⟨rfl,rfl⟩:=heq;split at h
    ·rename_i m hm;simp only[Ka]at h;subst h;rw[Kc,<-Zmj hm w.2];have:=w.1.eq (by simp [cC]);rw[this];rfl
    ·cases h
   ·cases h
theorem Zrd (hX:XOk X) (hS:SimX X S):∀(caps:List Opd) (cs:List XA),asX (caps.map X.opd)=some cs->∃ys,K9 (caps.map S.opd)=some ys/\Ab WkA ys (cs.map (cA X.roots))/\∀x∈cs,okA X.roots X.next X.stamp x
 | [],cs,h=>by
  simp only[Khb,asX,Ka]at h;subst h;exact⟨[],rfl,trivial,by simp⟩
 | c::caps,cs,h=>by
  have h1:=Gq hS c;have h2:=Fb hX c;simp only[Kc]at h;cases hc:X.opd c with
  | a x =>
   rw[hc]at h h1 h2;simp only[asX]at h;split at h
   ·rename_i r hr;simp only[Ka]at h;subst h;obtain⟨ys,e1,e2,e3⟩:=Zrd hX hS caps r hr;cases hy:S.opd c with
    | a y =>
     rw[hy]at h1;refine⟨y::ys, ?_,⟨h1,e2⟩, ?_⟩
     ·simp only[Kc,hy,K9,e1,Kna]
     ·intro z hz;rcases Kh.1 hz with rfl|hz
      ·exact h2
      ·exact e3 z hz
    | _=>rw[hy]at h1;exact h1.elim
   ·cases h
  | _=>rw[hc]at h;simp [asX]at h
theorem Zn5 (hX:XOk X) (hS:SimX X S){i:I}{k:XV->Option β}(h:rdX X i k=some out):Pn X S i k out:=by
 cases i with
 | mv x=>exact⟨_,h,Fb hX x,_,Gq hS x,fun K hK=>hK⟩
 | pick c a b =>
  simp only[rdX]at h;split at h
  ·rename_i t hc;exact Yrd hX hS hc h
  ·simp at h
 | load n x=>exact Yp3 hX hS h
 | nilc x =>
  have hok:=Fb hX x;simp only[rdX]at h;split at h
  ·rename_i r v p i c t e hx;rw[hx]at hok;split at h
   ·rename_i hv;refine Ct h hok fun K hK=>?_;have hxS:S.opd x=.a (.c (.pe r p i c)):=by rw[Bj hS hx (by simp [cC,hv])];simp only[cC,hv]
    simp only[cC,hv]at hK;simp only[ev,hxS];exact hK
   ·simp at h
  ·rename_i r c hx;rw[hx]at hok;split at h
   ·rename_i s cs hr;refine Ct h hok fun K hK=>?_;have hxS:S.opd x=.a (.c (.pb r c)):=by rw[Bj hS hx (by simp [cC,hr])];simp only[cC,hr]
    simp only[cC,hr]at hK;simp only[ev,hxS];exact hK
   ·simp at h
  ·simp at h
 | bin op x y =>
  simp only[rdX]at h;split at h
  ·rename_i u v hu hv;exact Ypy hX hS hu hv h
  ·simp at h
 | beq neg x y =>
  simp only[rdX]at h;split at h
  ·rename_i u v hu hv;refine Ct h trivial fun K hK=>?_;simp only[ev,Bj hS hu (by simp [cC]),Bj hS hv (by simp [cC]),cC];cases neg<;>exact hK
  ·simp at h
 | aeq neg m x y =>
  simp only[rdX]at h;split at h
  ·rename_i cs ds hu hv;split at h
   ·rename_i us vs h1 h2;split at h
    ·rename_i hb;simp only[Kd]at hb;refine Ct h trivial fun K hK=>?_;have s1:=Gq hS x;have s2:=Gq hS y;rw[hu]at s1;rw[hv]at s2;cases e1:S.opd x with
     | a q1 =>
      rw[e1]at s1;cases e2:S.opd y with
      | a q2 =>
       rw[e2]at s2;cases q1 with
       | ag zs=>cases q2 with
        | ag ws =>
         simp only[ev,e1,e2];refine⟨us,vs,Zmj h1 s1,Zmj h2 s2,by rw[<-Zm6];exact Kr hb.1,by rw[<-Zm6];exact Kr hb.2, ?_⟩;cases neg<;>exact hK
        | c _=>exact s2.elim
       | c _=>exact s1.elim
      | _=>rw[e2]at s2;exact s2.elim
     | _=>rw[e1]at s1;exact s1.elim
    ·cases h
   ·cases h
  ·cases h
 | un op x =>
  simp only[rdX]at h;split at h
  ·rename_i u hu;refine Ct h trivial fun K hK=>?_;simp only[ev,Bj hS hu (by simp [cC]),cC];exact⟨_,rfl,hK⟩
  ·rename_i kd z hu;refine Ct h Znh fun K hK=>?_;simp only[ev,Bj hS hu (by simp [cC]),cC];rw[show cC X.roots (mkI kd (Zvb kd z))=.lf (.int kd (kd.wrap (0-z))) from Znj]at hK;exact⟨_,rfl,hK⟩
  ·simp at h
 | conv kd x =>
  simp only[rdX]at h;split at h
  ·rename_i z hz;obtain⟨k',hx⟩:=N8 hS hz;refine Ct h Znh fun K hK=>?_;rw[show cC X.roots (mkI kd (Ak kd z))=.lf (.int kd (kd.wrap z)) from Znj]at hK;simp only[ev,hx];exact hK
  ·simp at h
 | b2s x =>
  have hok:=Fb hX x;simp only[rdX]at h;split at h
  ·rename_i s hx;refine Ct h trivial fun K hK=>?_;simp only[ev,Bj hS hx (by simp [cC]),cC];exact hK
  ·rename_i c hc hx;rw[hx]at hok;obtain⟨t,ws,r,p,lo,l,h1,h2,h3,h4,h5,h6⟩:=Zqh hok h;split at h1
   ·refine Ct h1 trivial fun K hK=>?_;have hxS:=Bj hS hx (by rw[h3];simp);rw[h3]at hxS;simp only[ev,hxS,Ty.n];refine⟨_, ?_,hK⟩;rw[Qq,Vz hS h4];simp only[Kra,h5,if_true,h6];exact Zrl _
   ·simp at h1
  ·simp at h
 | slc z0 x lo hi =>
  simp only[rdX]at h;split at h
  ·rename_i c xl xh hx hl hh;exact Ytp hX hS hx hl hh h
  ·simp at h
 | ssl x lo hi =>
  simp only[rdX]at h;split at h
  ·rename_i l xl xh hx hl hh;split at h
   ·rename_i hs;obtain⟨h1,h2⟩:=Di h;have h1:=Zbe h1;have hs':(lo.isSome||hi.isSome)=true:=by
     rcases Vx hS hl with ⟨rfl,rfl⟩|⟨_,_,rfl,e⟩<;>rcases Vx hS hh with ⟨rfl,rfl⟩|⟨_,_,rfl,e'⟩
     ·simp at hs
     ·cases hi with
      | none=>simp at e'
      | some _=>rfl
     ·cases lo with
      | none=>simp at e
      | some _=>rfl
     ·cases lo with
      | none=>simp at e
      | some _=>rfl
    simp only[Yae]at h2;refine Ct h2 trivial fun K hK=>?_;exact Yip (Bj hS hx (by simp [cC])) (Vx hS hl) (Vx hS hh) hs' h1 hK
   ·simp at h
  ·simp at h
 | fld off n x =>
  have hok:=Fb hX x;have hsim:=Gq hS x;simp only[rdX]at h;split at h
  ·rename_i cs hx;rw[hx]at hok hsim;have:∃ys,S.opd x=.a (.ag ys)/\Ab WkC ys (cs.map (cC X.roots)):=by
    cases hq:S.opd x with
    | a z=>cases z with
     | ag ys=>rw[hq]at hsim;exact⟨ys,rfl,hsim⟩
     | c _=>rw[hq]at hsim;exact hsim.elim
    | _=>rw[hq]at hsim;exact hsim.elim
   obtain⟨ys,e1,e2⟩:=this;split at h
   ·split at h
    ·rename_i y hy;obtain⟨z,z1,z2⟩:=Tu (i:=off) (x:=cC X.roots y) e2 (by rw[Kga,hy];rfl);refine⟨_,h,hok y (Kfa hy),.a (.c z),z2,fun K hK=>?_⟩;simp only[ev,e1];exact⟨z,z1,hK⟩
    ·simp at h
   ·rename_i m;split at h
    ·rename_i hm;have hm:=Kea hm;refine⟨_,h,fun c hc=>hok c (Knb (Kpb hc)),.a (.ag ((ys.drop off).take m)), ?_,fun K hK=>?_⟩
     ·simp only[cV,cA,WkV,WkA,Kib,Kkb];exact Je (Iy e2)
     ·simp only[ev,e1];have:=e2.length;simp only[Kt]at this;exact⟨by omega,hK⟩
    ·simp at h
  ·simp at h
 | fad off x =>
  have hok:=Fb hX x;simp only[rdX]at h;split at h
  ·rename_i r v p i c t e hx;rw[hx]at hok;split at h
   ·rename_i hv;refine Ct h hok fun K hK=>?_;have hxS:S.opd x=.a (.c (.pe r p i c)):=by rw[Bj hS hx (by simp [cC,hv])];simp only[cC,hv]
    simp only[cC,hv]at hK;simp only[ev,hxS];exact hK
   ·simp at h
  ·rename_i r c hx;rw[hx]at hok;split at h
   ·rename_i s cs hr;refine Ct h hok fun K hK=>?_;have hxS:S.opd x=.a (.c (.pb r c)):=by rw[Bj hS hx (by simp [cC,hr])];simp only[cC,hr]
    simp only[cC,hr]at hK;simp only[ev,hxS];exact hK
   ·simp at h
  ·rename_i b o hx;refine Ct h trivial fun K hK=>?_;have hxS:S.opd x=.a (.c (.lf (.pointer (some ⟨b,o,none⟩)))):=by rw[Bj hS hx (by simp [cC])];rfl
   simp only[ev,hxS];exact hK
  ·simp at h
 | iad sz x j =>
  simp only[rdX]at h;split at h
  ·rename_i c z hx hj;exact Ypa hX hS hx hj h
  ·simp at h
 | iaa len sz x j =>
  have hok:=Fb hX x;simp only[rdX]at h;split at h
  ·rename_i r c z hx hj;rw[hx]at hok;obtain⟨kd,J⟩:=N8 hS hj;split at h
   ·rename_i s cs hr;obtain⟨h1,h⟩:=Di h;obtain⟨h2,h⟩:=Di h;simp only[iLe,iLt,decide_eq_true_eq,Keg]at h1 h2;refine Ct h hok fun K hK=>?_;have hxS:S.opd x=.a (.c (.pb r c)):=by rw[Bj hS hx (by simp [cC,hr])];simp only[cC,hr]
    simp only[cC,hr]at hK;simp only[ev,hxS,J];exact⟨⟨h1,h2⟩,hK⟩
   ·simp at h
  ·rename_i b o z hx hj;obtain⟨kd,J⟩:=N8 hS hj;obtain⟨h1,h⟩:=Di h;obtain⟨h2,h⟩:=Di h;simp only[iLe,iLt,decide_eq_true_eq,Keg]at h1 h2;refine Ct h trivial fun K hK=>?_;have hxS:S.opd x=.a (.c (.lf (.pointer (some ⟨b,o,none⟩)))):=by rw[Bj hS hx (by simp [cC])];rfl
   simp only[ev,hxS,J];exact⟨⟨h1,h2⟩,hK⟩
  ·simp at h
 | idx x j =>
  simp only[rdX]at h;split at h
  ·rename_i l z hx hj;obtain⟨kd,J⟩:=N8 hS hj;obtain⟨b,h1,h⟩:=F5 h;obtain⟨h0,h1⟩:=Vj h1;refine Ct h trivial fun K hK=>?_;simp only[ev,Bj hS hx (by simp [cC]),cC,J];exact⟨h0,b,by rw[Yt2];exact h1,hK⟩
  ·simp at h
 | ixa len n sz x j =>
  cases n with
  | some m=>simp [rdX]at h
  | none =>
   have hsim:=Gq hS x;simp only[rdX]at h;split at h
   ·rename_i cs z hx hj;rw[hx]at hsim;obtain⟨kd,J⟩:=N8 hS hj;split at h
    ·rename_i l hl hb;simp only[Kd]at hb;have hb1:=Kr hb.1;have hb2:=Kr hb.2;subst hb2;obtain⟨e,h1,h⟩:=F5 h;obtain⟨h0,h1⟩:=Vj h1;have:∃ys,S.opd x=.a (.ag ys)/\Ab WkC ys (cs.map (cC X.roots)):=by
      cases hq:S.opd x with
      | a z=>cases z with
       | ag ys=>rw[hq]at hsim;exact⟨ys,rfl,hsim⟩
       | c _=>rw[hq]at hsim;exact hsim.elim
      | _=>rw[hq]at hsim;exact hsim.elim
     obtain⟨ys,e1,e2⟩:=this;have hcs:=Zmk (R:=X.roots) hl;have hlen:l.length=cs.length:=by have:=congrArg List.length hcs;simpa using this.symm
     have hlt:=(Kja.1 h1).1;obtain⟨y,y1,y2⟩:=Tu (i:=z.toNat) (x:=C.lf (.int .i64 e)) e2 (by rw[hcs,Kga,h1];rfl);have y3:=y2.eq (by simp);subst y3;refine Ct h trivial fun K hK=>?_;simp only[ev,e1,J];exact⟨⟨h0,by omega⟩,_,by rw[Knd];exact y1,hK⟩
    ·simp at h
   ·simp at h
 | ext n x =>
  have hok:=Fb hX x;have hsim:=Gq hS x;simp only[rdX]at h;split at h
  ·rename_i xs hx;rw[hx]at hok hsim;split at h
   ·rename_i y hy;have:∃ys,S.opd x=.tp ys/\Ab WkA ys (xs.map (cA X.roots)):=by
     cases hq:S.opd x with
     | tp ys=>rw[hq]at hsim;exact⟨ys,rfl,hsim⟩
     | _=>rw[hq]at hsim;exact hsim.elim
    obtain⟨ys,e1,e2⟩:=this;obtain⟨z,z1,z2⟩:=Zqj (i:=n) (x:=cA X.roots y) e2 (by rw[Kga,hy];rfl);refine⟨_,h,hok y (Kfa hy),.a z,z2,fun K hK=>?_⟩;simp only[ev,e1];exact⟨z,z1,hK⟩
   ·simp at h
  ·simp at h
 | len x =>
  simp only[rdX]at h;split at h
  ·rename_i c hx;exact Yp1 hX hS hx h
  ·simp at h
 | sid x =>
  simp only[rdX]at h;split at h
  ·rename_i l hx;refine Ct h trivial fun K hK=>?_;simp only[ev,Bj hS hx (by simp [cC]),cC];exact hK
  ·simp at h
 | sln x =>
  simp only[rdX]at h;split at h
  ·rename_i l hx;refine Ct h trivial fun K hK=>?_;simp only[ev,Bj hS hx (by simp [cC]),cC];exact hK
  ·simp at h
 | build zero parts =>
  simp only[rdX]at h;split at h
  ·rename_i hz;split at h
   ·rename_i cs hf;obtain⟨zs,e1,e2,e3⟩:=Zln hX hS parts _ zero cs (Z1 X.roots hz) (by
     intro c hc;obtain⟨c',_,rfl⟩:=Kca.1 hc;exact Z0 _ _ _ c') hf
    refine⟨_,h,e3,.a (.ag zs),e2,fun K hK=>?_⟩;simp only[ev];exact⟨zs,e1,hK⟩
   ·simp at h
  ·simp at h
 | mkf f caps =>
  simp only[rdX]at h;split at h
  ·rename_i cs hq;obtain⟨ys,e1,e2,e3⟩:=Zrd hX hS caps cs hq;exact⟨_,h,e3,.fn f ys,⟨rfl,e2⟩,fun K hK=>⟨ys,e1,hK⟩⟩
  ·cases h
end
end Go.Vs
namespace Go.Vs
variable [Glb]
def XSt.put (X:XSt) (d:Option Nat) (v:XV):XSt:=match d with
 | some d=>⟨(d,X.stamp,v)::X.env,X.roots,X.next,X.stamp+1,X.fix⟩
 | none=>X
def XSt.newR (X:XSt) (x:XR):XSt:=⟨X.env,(X.next,X.stamp,x)::X.roots,X.next+1,X.stamp+1,X.fix⟩
def XSt.setR (X:XSt) (r:Nat) (x:XR):XSt:=⟨X.env,(r,X.stamp,x)::X.roots,X.next,X.stamp+1,X.fix⟩
def XSt.delRs (X:XSt):List Nat->XSt
 | []=>X
 | r::l=>(X.setR r .gone).delRs l
theorem I7 {X:XSt}(h:XOk X){d:Option Nat}{v:XV}(hv:okV X.roots X.next X.stamp v):XOk (X.put d v)/\Ext X (X.put d v):=by
 cases d with
 | none=>exact⟨h,Ext.refl X⟩
 | some d =>
  have same:∀r s x,lk X.roots r=some (s,x)->s<X.stamp->lk X.roots r=some (s,x):=fun _ _ _ h _=>h;refine⟨⟨fun r s x hx=>⟨(h.ids r s x hx).1,Kqb (h.ids r s x hx).2⟩, ?_, ?_,h.fixle⟩,⟨Kf _,Kac _,rfl,same, ?_,fun r s cs hl c e hc _=>⟨s,cs,hl,hc⟩⟩⟩
  ·intro t s w hl;simp only[XSt.put]at hl;rw[Bf]at hl;split at hl
   ·simp only[Ka,Kb]at hl;obtain⟨rfl,rfl⟩:=hl;exact⟨Ksa _,okV.ext (Kf _) (Kac _) same hv⟩
   ·obtain⟨a,b⟩:=h.env t s w hl;exact⟨Kqb a,okV.ext (Kf _) (Kac _) same b⟩
  ·intro r s cs hl e he;obtain⟨a,b⟩:=h.box r s cs hl e he;exact⟨Kqb a,okC.ext (Kf _) (Kac _) same b⟩
  ·intro t s w hl hs;simp only[XSt.put]at hl;rw[Bf]at hl;split at hl
   ·simp only[Ka,Kb]at hl;omega
   ·exact hl
theorem L6 {X:XSt}(h:XOk X){r nx:Nat}{x:XR}(hn:X.next<=nx) (hr:r<nx)
  (hb:∀cs,x=.bx cs->∀(c:Nat) (e:Nat×XC),cs[c]? = some e->(e.1=X.stamp\/∃s0 cs0,lk X.roots r=some (s0,.bx cs0)/\cs0[c]? = some e)/\okC X.roots X.next X.stamp e.2) :
  XOk ⟨X.env,(r,X.stamp,x)::X.roots,nx,X.stamp+1,X.fix⟩/\Ext X ⟨X.env,(r,X.stamp,x)::X.roots,nx,X.stamp+1,X.fix⟩:=by
 have old:∀q s y,lk ((r,X.stamp,x)::X.roots) q=some (s,y)->s<X.stamp->lk X.roots q=some (s,y):=by
  intro q s y hl hs;rw[Bf]at hl;split at hl
  ·simp only[Ka,Kb]at hl;omega
  ·exact hl
 have le:=Kac X.stamp;refine⟨⟨?_, ?_, ?_,Kqa h.fixle hn⟩,⟨hn,le,rfl,old,fun _ _ _ hl _=>hl, ?_⟩⟩
 ·intro q s y hl;rw[Bf]at hl;split at hl
  ·rename_i e;simp only[Ka,Kb]at hl;simp only at e;obtain⟨rfl,_⟩:=hl;exact⟨by show q<nx;omega,Ksa _⟩
  ·obtain⟨a,b⟩:=h.ids q s y hl;exact⟨by show q<nx;omega,Kqb b⟩
 ·intro t s w hl;obtain⟨a,b⟩:=h.env t s w hl;exact⟨Kqb a,okV.ext hn le old b⟩
 ·intro q s cs hl e he;rw[Bf]at hl;split at hl
  ·simp only[Ka,Kb]at hl;obtain⟨c,hc,he'⟩:=Kjd he;obtain⟨a,b⟩:=hb cs hl.2 c e (by rw[Ku hc,he']);refine⟨?_,okC.ext hn le old b⟩;rcases a with a|⟨s0,cs0,a1,a2⟩
   ·rw[a];exact Ksa _
   ·exact Kqb (h.box _ _ _ a1 e (Kfa a2)).1
  ·obtain⟨a,b⟩:=h.box q s cs hl e he;exact⟨Kqb a,okC.ext hn le old b⟩
 ·intro q s cs hl c e hc hs;rw[Bf]at hl;split at hl
  ·rename_i eq;simp only at eq;subst eq;simp only[Ka,Kb]at hl;rcases (hb cs hl.2 c e hc).1 with a|a
   ·omega
   ·exact a
  ·exact⟨s,cs,hl,hc⟩
theorem Zmu:∀ks:List (Nat×Ag),Ba ks .un=.un
 | []=>rfl
 | k::ks=>Zmu ks
theorem Zvy (v:Value):∀ks:List (Nat×Ag),Ba ks (.lf v)=.lf v
 | []=>rfl
 | k::ks=>Zvy v ks
theorem Zql {κ:C->C}(hκ:κ .un=.un){y x x':C}(h:WkC y x) (hx:x'=.un\/x'=κ x):WkC (κ y) x':=by
 rcases hx with hx|hx
 ·exact .inr hx
 ·rcases h with rfl|rfl
  ·exact .inl hx
  ·exact .inr (by rw[hx,hκ])
section
variable {X X':XSt} {S:St} {ks:List (Nat×Ag)} {roots:List (Nat×Root)}
section
variable {κ:C->C} {R R':XRs} {nx st:Nat}
theorem Zh7 (hκ:κ .un=.un) (hc:∀c,okC R nx st c->cC R' c=.un\/cC R' c=κ (cC R c)):∀{ys:List C}{cs:List XC},(∀c∈cs,okC R nx st c)->Ab WkC ys (cs.map (cC R))->Ab WkC (ys.map κ) (cs.map (cC R'))
 | [],[],_,_=>trivial
 | y::ys,c::cs,ho,h=>⟨Zql hκ h.1 (hc c (ho c Ks)),Zh7 hκ hc (fun c hc=>ho c (Ko _ hc)) h.2⟩
 | [],_::_,_,h=>h.elim
 | _::_,[],_,h=>h.elim
theorem Ycg (hκ:κ .un=.un) (hc:∀c,okC R nx st c->cC R' c=.un\/cC R' c=κ (cC R c)){y:A}{x:XA}(ho:okA R nx st x) (h:WkA y (cA R x)):WkA (y.map κ) (cA R' x):=by
 cases x with
 | c x=>cases y with
  | c y=>exact Zql hκ h (hc x ho)
  | ag _=>exact h.elim
 | ag xs=>cases y with
  | c y=>exact h.elim
  | ag ys=>exact Zh7 hκ hc ho h
theorem Zqk (hκ:κ .un=.un) (hc:∀c,okC R nx st c->cC R' c=.un\/cC R' c=κ (cC R c)):∀{ys:List A}{xs:List XA},(∀x∈xs,okA R nx st x)->Ab WkA ys (xs.map (cA R))->Ab WkA (ys.map (A.map κ)) (xs.map (cA R'))
 | [],[],_,_=>trivial
 | y::ys,c::cs,ho,h=>⟨Ycg hκ hc (ho c Ks) h.1,Zqk hκ hc (fun c hc=>ho c (Ko _ hc)) h.2⟩
 | [],_::_,_,h=>h.elim
 | _::_,[],_,h=>h.elim
theorem Yci (hκ:κ .un=.un) (hc:∀c,okC R nx st c->cC R' c=.un\/cC R' c=κ (cC R c)){y:V}{x:XV}(ho:okV R nx st x) (h:WkV y (cV R x)):WkV (y.map κ) (cV R' x):=by
 cases x with
 | un=>cases y<;>trivial
 | a x=>cases y with
  | a y=>exact Ycg hκ hc ho h
  | _=>exact h.elim
 | tp xs=>cases y with
  | tp ys=>exact Zqk hκ hc ho h
  | _=>exact h.elim
 | fn f xs=>cases y with
  | fn g cs =>
   obtain⟨rfl,h⟩:=h;exact⟨rfl,Zqk hκ hc ho h⟩
  | _=>exact h.elim
 | sb r n =>
  simp only[cV];split
  ·rename_i s cs hl;have h1:cC R' (.pb r 0)=.pb r 0:=by simp only[cC,hl]
   rcases hc (.pb r 0) ho with h2|h2
   ·rw[h1]at h2;simp at h2
   ·rw[h1]at h2;have h3:cC R (.pb r 0)=.pb r 0:=by
     simp only[cC]at h2 ⊢;split at h2
     ·rfl
     ·rw[hκ]at h2;simp at h2
    have h4:cV R (.sb r n)=.sb r n:=by
     simp only[cC]at h3;simp only[cV];split at h3
     ·rfl
     ·simp at h3
    rw[h4]at h;rw[h3]at h2;cases y with
    | sb r' n' =>
     obtain⟨rfl,rfl⟩:=h;simp only[V.map,<-h2];exact⟨rfl,rfl⟩
    | _=>exact h.elim
  ·cases y<;>trivial
end
theorem Wz {R R':XRs}{nx st:Nat}(hc:∀c,okC R nx st c->cC R' c=.un\/cC R' c=Ba ks (cC R c)){ys:List C}{cs:List XC}(ho:∀c∈cs,okC R nx st c) (h:Ab WkC ys (cs.map (cC R))):Ab WkC (ys.map (Ba ks)) (cs.map (cC R')):=Zh7 (Zmu ks) hc ho h
theorem Ych {R R':XRs}{nx st:Nat}(hc:∀c,okC R nx st c->cC R' c=.un\/cC R' c=Ba ks (cC R c)){y:V}{x:XV}(ho:okV R nx st x) (h:WkV y (cV R x)):WkV (y.map (Ba ks)) (cV R' x):=Yci (Zmu ks) hc ho h
theorem Ot (hX:XOk X) (hS:SimX X S) (he:X'.env=X.env) (hf:X'.fix=X.fix) (hc:∀c,okC X.roots X.next X.stamp c->cC X'.roots c=.un\/cC X'.roots c=Ba ks (cC X.roots c))
  (hr:∀r s x,lk X'.roots r=some (s,x)->(lk X.roots r=some (s,x)/\get roots r=(get S.roots r).map (Root.map (Ba ks)))\/∀y,cRt X'.roots x=some y->∃y',get roots r=some y'/\WkR y' y) :
  SimX X' ⟨B9 ks S.env,roots,X'.next,S.fix⟩:=by
 refine⟨rfl,by rw[hf];exact hS.fix, ?_, ?_⟩
 ·intro t s v hl;rw[he]at hl;rcases hS.env t s v hl with h|⟨y,h1,h2⟩
  ·exact .inl h
  ·exact .inr ⟨_,by rw[Vb,h1];rfl,Ych hc (hX.env t s v hl).2 h2⟩
 ·intro r s x hl y hy;rcases hr r s x hl with ⟨h1,h2⟩|h
  ·cases x with
   | tr t xs =>
    obtain⟨y',a,b⟩:=hS.roots r s _ h1 _ rfl;simp only[cRt,Ka]at hy;subst hy;cases y' with
    | tr _ _=>exact⟨_,by rw[h2,a];rfl,b⟩
    | _=>exact b.elim
   | im t xs =>
    obtain⟨y',a,b⟩:=hS.roots r s _ h1 _ rfl;simp only[cRt,Ka]at hy;subst hy;cases y' with
    | im _ _=>exact⟨_,by rw[h2,a];rfl,b⟩
    | _=>exact b.elim
   | bx cs =>
    obtain⟨y',a,b⟩:=hS.roots r s _ h1 _ rfl;simp only[cRt,Ka]at hy;subst hy;cases y' with
    | bx ys =>
     refine⟨_,by rw[h2,a];rfl, ?_⟩;have:cs.map (fun e=>cC X'.roots e.2)=(cs.map (·.2)).map (cC X'.roots):=by simp
     rw[this];refine Wz hc ?_ ?_
     ·intro c hc;obtain⟨e,he,rfl⟩:=Kca.1 hc;exact (hX.box r s cs h1 e he).2
     ·rw[Krb];exact b
    | _=>exact b.elim
   | gone=>simp [cRt]at hy
  ·exact h y hy
theorem Yrs (x:Root):Root.map (Ba []) x=x:=by
 have:Ba []=fun c=>c:=by funext c;rfl
 rw[this,Root.map_id]
theorem Lq (x:Option Root):x.map (Root.map (Ba []))=x:=by cases x<;>simp [Yrs]
theorem Zrn {R:XRs}{nx st r:Nat}{x:XR}(hx:nx<=r\/x=.gone\/(∃cs cs0 s,x=.bx cs/\lk R r=some (s,.bx cs0))\/∃t t0 xs xs0 s,x=.tr t xs/\lk R r=some (s,.tr t0 xs0)/\t.n=t0.n/\xs.length=xs0.length){c:XC}(ho:okC R nx st c):cC ((r,st,x)::R) c=.un\/cC ((r,st,x)::R) c=cC R c:=by
 have hne:∀{q:Nat},r≠q->lk ((r,st,x)::R) q=lk R q:=fun h=>by rw[Bf,if_neg h]
 have heq:lk ((r,st,x)::R) r=some (st,x):=by rw[Bf,if_pos rfl]
 cases c with
 | rw q =>
  by_cases h:r=q
  ·subst h;rcases hx with h|rfl|⟨cs,cs0,s0,rfl,h0⟩|⟨t,t0,xs,xs0,s,rfl,h1,h3,h2⟩
   ·simp only[okC]at ho;omega
   ·left;simp only[cC,heq]
   ·left;simp only[cC,heq]
   ·right;simp only[cC,heq,h1,h2,h3]
  ·right;simp only[cC,hne h]
 | rv q lo n =>
  by_cases h:r=q
  ·subst h;rcases hx with h|rfl|⟨cs,cs0,s0,rfl,h0⟩|⟨t,t0,xs,xs0,s,rfl,h1,h3,h2⟩
   ·simp only[okC]at ho;omega
   ·left;simp only[cC,heq]
   ·left;simp only[cC,heq]
   ·right;simp only[cC,heq,h1,h3]
  ·right;simp only[cC,hne h]
 | rf q v p lo t ws =>
  by_cases h:r=q
  ·subst h;left;have:Co ((r,st,x)::R) r v=false:=by
    simp only[Co,heq];cases hb:Nat.beq st v with
    | false=>rfl
    | true=>have:=Kr hb;have:=ho.2.1;omega
   simp only[cC,this]
  ·right;simp only[cC,Co,hne h]
 | pe q v p i c t y =>
  by_cases h:r=q
  ·subst h;left;have:Co ((r,st,x)::R) r v=false:=by
    simp only[Co,heq];cases hb:Nat.beq st v with
    | false=>rfl
    | true=>have:=Kr hb;have:=ho.2.1;omega
   simp only[cC,this]
  ·right;simp only[cC,Co,hne h]
 | pb q c =>
  by_cases h:r=q
  ·subst h;rcases hx with h|rfl|⟨cs,cs0,s0,rfl,h0⟩|⟨t,t0,xs,xs0,s,rfl,h1,h3,h2⟩
   ·simp only[okC]at ho;omega
   ·left;simp only[cC,heq]
   ·right;simp only[cC,heq,h0]
   ·left;simp only[cC,heq]
  ·right;simp only[cC,hne h]
 | _=>right;rfl
theorem K8 {R:XRs}{nx st r:Nat}{x:XR}(hx:nx<=r\/x=.gone\/(∃cs cs0 s,x=.bx cs/\lk R r=some (s,.bx cs0))\/∃t xs xs0 s,x=.tr t xs/\lk R r=some (s,.tr t xs0)/\xs.length=xs0.length){c:XC}(ho:okC R nx st c):cC ((r,st,x)::R) c=.un\/cC ((r,st,x)::R) c=cC R c :=
 Zrn (hx.imp id fun h=>h.imp id fun h=>h.imp id fun ⟨t,xs,xs0,s,a,b,c⟩=>⟨t,t,xs,xs0,s,a,b,rfl,c⟩) ho
end
end Go.Vs
namespace Go.Vs
variable [Glb]
def S5 (lo n:Nat):Bool:=decide (lo=0\/0<n)
def Ps {β:Type}(t t':Ty) (ws:List t.den) (f:List t'.den->Option β):Option β:=if h:t=t' then f (h ▸ ws) else none
def cv:(t t':Ty)->t.den->Option t'.den
 | .I k,.I k',z=>match kEq k k' with
  | true=>some z
  | false=>none
 | .Y,.Y,b=>some b
 | .B,.B,x=>some x
 | .S,.S,l=>some l
 | .L a,.L b,xs=>if h:a=b then some (h ▸ xs) else none
 | .H a,.H b,xs=>if h:a=b then some (h ▸ xs) else none
 | .L a,.H b,xs=>if h:a=b then some (some (h ▸ xs)) else none
 | .H a,.L b,o=>match o with
  | some xs=>if h:a=b then some (h ▸ xs) else none
  | none=>none
 | .P a b,.P c d,x=>match cv a c x.1,cv b d x.2 with
  | some y,some z=>some (y,z)
  | _,_=>none
 | _,_,_=>none
def cvL (t t':Ty):List t.den->Option (List t'.den)
 | []=>some []
 | x::l=>match cv t t' x,cvL t t' l with
  | some y,some m=>some (y::m)
  | _,_=>none
def Ru {β:Type}(t t':Ty) (ws:List t.den) (f:List t'.den->Option β):Option β:=if h:t=t' then f (h ▸ ws) else match Nat.beq t.n t'.n with
 | true=>bnd (cvL t t' ws) f
 | false=>none
theorem Yeq:∀(t t':Ty) (x:t.den) (y:t'.den),cv t t' x=some y->t.n=t'.n/\Af t x=Af t' y:=by
 intro t
 induction t with
 | I k=>intro t' x y h;cases t'<;>simp only[cv,reduceCtorEq]at h;split at h<;>simp at h;rename_i hk;simp only[kEq,decide_eq_true_eq]at hk;subst hk;subst h;exact⟨rfl,rfl⟩
 | Y=>intro t' x y h;cases t'<;>simp only[cv,reduceCtorEq,Ka]at h;subst h;exact⟨rfl,rfl⟩
 | B=>intro t' x y h;cases t'<;>simp only[cv,reduceCtorEq,Ka]at h;subst h;exact⟨rfl,rfl⟩
 | S=>intro t' x y h;cases t'<;>simp only[cv,reduceCtorEq,Ka]at h;subst h;exact⟨rfl,rfl⟩
 | L a _ =>
  intro t' x y h;cases t' with
  | L b=>simp only[cv]at h;split at h<;>simp at h;rename_i e;subst e;subst h;exact⟨rfl,rfl⟩
  | H b=>simp only[cv]at h;split at h<;>simp at h;rename_i e;subst e;subst h;exact⟨rfl,rfl⟩
  | _=>simp [cv]at h
 | H a _ =>
  intro t' x y h;cases t' with
  | L b =>
   cases x with
   | none=>simp [cv]at h
   | some x=>simp only[cv]at h;split at h<;>simp at h;rename_i e;subst e;subst h;exact⟨rfl,rfl⟩
  | H b=>simp only[cv]at h;split at h<;>simp at h;rename_i e;subst e;subst h;exact⟨rfl,rfl⟩
  | _=>simp [cv]at h
 | P a b ha hb =>
  intro t' x y h;cases t' with
  | P c d =>
   simp only[cv]at h;split at h
   ·rename_i u v h1 h2;simp only[Ka]at h;subst h;obtain⟨a1,a2⟩:=ha _ _ _ h1;obtain⟨b1,b2⟩:=hb _ _ _ h2;exact⟨by simp only[Ty.n,a1,b1],by simp only[Af,a2,b2]⟩
   ·simp at h
  | _=>simp [cv]at h
theorem Zsl {t t':Ty}:∀{xs:List t.den}{ys:List t'.den},cvL t t' xs=some ys->xs.map (Af t)=ys.map (Af t')/\ys.length=xs.length/\(t.n=t'.n\/xs=[])
 | [],ys,h=>by simp only[cvL,Ka]at h;subst h;exact⟨rfl,rfl,.inr rfl⟩
 | x::xs,ys,h=>by
  simp only[cvL]at h;split at h
  ·rename_i y m h1 h2;simp only[Ka]at h;subst h;obtain⟨a1,a2⟩:=Yeq _ _ _ _ h1;obtain⟨b1,b2,_⟩:=Zsl h2;exact⟨by simp only[Kc,a2,b1],by simp [b2],.inl a1⟩
  ·simp at h
def Zhi {β:Type}(R:XRs) (t:Ty) (c:XC) (f:List t.den->Option β):Option β:=match c with
 | .nl n=>match Nat.beq n t.n with
  | true=>f []
  | false=>none
 | .rw r=>O5 R (.rw r) fun t' ws=>Ru t' t ws f
 | .rv r lo n=>chk (S5 lo n) (O5 R (.rv r lo n) fun t' ws=>Ru t' t ws f)
 | .rf r v p lo t' ws=>chk (S5 lo ws.length) (O5 R (.rf r v p lo t' ws) fun t' ws=>Ru t' t ws f)
 | _=>none
def Ei {β:Type}(R:XRs):(t:Ty)->List XC->(t.den->List XC->Option β)->Option β
 | .I k,c::cs,f=>match toI c with
  | some (k',z)=>match kEq k k' with
   | true=>f z cs
   | false=>none
  | none=>none
 | .Y,c::cs,f=>match c with
  | .y b=>f b cs
  | _=>none
 | .B,c::cs,f=>match c with
  | .b x=>f x cs
  | _=>none
 | .S,c::cs,f=>match c with
  | .s l=>f l cs
  | _=>none
 | .L t,c::cs,f=>Zhi R t c fun ws=>f ws cs
 | .H t,c::cs,f=>Zhi R t c fun ws=>f (some ws) cs
 | .P a b,cs,f=>Ei R a cs fun x cs=>Ei R b cs fun y cs=>f (x,y) cs
 | _,[],_=>none
def S7 {β:Type}(R:XRs) (t:Ty):Nat->List XC->(List t.den->Option β)->Option β
 | 0,cs,f=>match cs with
  | []=>f []
  | _=>none
 | n+1,cs,f=>Ei R t cs fun x cs=>S7 R t n cs fun xs=>f (x::xs)
def CD (R:XRs) (c:XC) (d:D):Prop :=
 (∃v,cC R c=.lf v/\d=.lf v)\/(∃n,c=.nl n/\d=.sl n []) \/
 ∃(t:Ty) (ws:List t.den) (r:Nat) (p:Ag) (lo:Nat) (l:List (List D)),cC R c=.rf r p t.n lo ws.length/\Cr R r p=some (t.n,l)/\lo+ws.length<=l.length/\(l.drop lo).take ws.length=ws.map (Af t)/\d=.sl t.n (ws.map (Af t))/\(lo=0\/0<ws.length)
theorem CD.ne {R:XRs}{c:XC}{d:D}(h:CD R c d):cC R c≠.un:=by
 rcases h with ⟨v,h,_⟩|⟨n,h,_⟩|⟨t,ws,r,p,lo,l,h,_⟩
 ·rw[h];simp
 ·rw[h];simp [cC]
 ·rw[h];simp
theorem Uu {β:Type}{t t':Ty}{ws:List t.den}{f:List t'.den->Option β}{out:β}(h:Ps t t' ws f=some out):∃ws':List t'.den,f ws'=some out/\t=t'/\ws.map (Af t)=ws'.map (Af t')/\ws'.length=ws.length:=by
 unfold Ps at h;split at h
 ·rename_i e;subst e;exact⟨ws,h,rfl,rfl,rfl⟩
 ·simp at h
theorem Zrx {β:Type}{t t':Ty}{ws:List t.den}{f:List t'.den->Option β}{out:β}(h:Ru t t' ws f=some out):∃ws':List t'.den,f ws'=some out/\t.n=t'.n/\ws.map (Af t)=ws'.map (Af t')/\ws'.length=ws.length:=by
 unfold Ru at h;split at h
 ·rename_i e;subst e;exact⟨ws,h,rfl,rfl,rfl⟩
 ·split at h
  ·rename_i hn;obtain⟨ws',h1,h⟩:=F5 h;obtain⟨a,b,_⟩:=Zsl h1;exact⟨ws',h,Kr hn,a,b⟩
  ·simp at h
theorem Yab {β:Type}{R:XRs}{nx st:Nat}{t:Ty}{c:XC}{f:List t.den->Option β}{out:β}(ho:okC R nx st c) (h:Zhi R t c f=some out):∃ws,f ws=some out/\CD R c (.sl t.n (ws.map (Af t))):=by
 have win:∀{c:XC},okC R nx st c->O5 R c (fun t' ws=>Ru t' t ws f)=some out->(∀r p s lo n,cC R c=.rf r p s lo n->lo=0\/0<n)->∃ws,f ws=some out/\CD R c (.sl t.n (ws.map (Af t))):=by
  intro c ho h hp;obtain⟨t',ws,r,p,lo,l,h1,h2,h3,h4,h5,h6⟩:=Zqh ho h;obtain⟨ws',g1,g2,g3,g4⟩:=Zrx h1;refine⟨ws',g1,.inr (.inr ⟨t,ws',r,p,lo,l,by rw[g4,<-g2];exact h3,by rw[<-g2];exact h4,by rw[g4];exact h5,by rw[g4,h6,g3],rfl,by rw[g4];exact hp _ _ _ _ _ h3⟩)⟩
 unfold Zhi at h;split at h
 ·split at h
  ·rename_i n hn;have hn:=Kr hn;subst hn;exact⟨[],h,.inr (.inl ⟨_,rfl,rfl⟩)⟩
  ·simp at h
 ·rename_i r;refine win ho h ?_;intro r' p s lo n e;simp only[cC]at e;split at e
  ·simp only[C.rf.injEq]at e;exact .inl e.2.2.2.1.symm
  ·simp only[C.rf.injEq]at e;exact .inl e.2.2.2.1.symm
  ·simp at e
 ·rename_i r lo n;obtain⟨h1,h⟩:=Di h;refine win ho h ?_;intro r' p s lo' n' e;simp only[S5,decide_eq_true_eq]at h1;simp only[cC]at e;split at e
  ·simp only[C.rf.injEq]at e;obtain⟨_,_,_,rfl,rfl⟩:=e;exact h1
  ·simp only[C.rf.injEq]at e;obtain⟨_,_,_,rfl,rfl⟩:=e;exact h1
  ·simp at e
 ·rename_i r v p lo t' ws;obtain⟨h1,h⟩:=Di h;refine win ho h ?_;intro r' p s lo' n' e;simp only[S5,decide_eq_true_eq]at h1;simp only[cC]at e;split at e
  ·simp only[C.rf.injEq]at e;obtain⟨_,_,_,rfl,rfl⟩:=e;exact h1
  ·simp at e
 ·simp at h
theorem Mt {β:Type}{R:XRs}{nx st:Nat}:∀(t:Ty) (cs:List XC) (f:t.den->List XC->Option β) (out:β),(∀c∈cs,okC R nx st c)->Ei R t cs f=some out ->
  ∃x cs0 rest,cs=cs0++rest/\f x rest=some out/\Ab (CD R) cs0 (Af t x)
 | .I k,c::cs,f,out,ho,h=>by
  simp only[Ei]at h;split at h
  ·rename_i k' z hz;split at h
   ·rename_i hk;simp only[kEq,decide_eq_true_eq]at hk;subst hk;exact⟨z,[c],cs,rfl,h,⟨.inl ⟨_,Mz hz,rfl⟩,trivial⟩⟩
   ·simp at h
  ·simp at h
 | .Y,c::cs,f,out,ho,h=>by
  simp only[Ei]at h;split at h
  ·rename_i b;exact⟨b,[_],cs,rfl,h,⟨.inl ⟨_,rfl,rfl⟩,trivial⟩⟩
  ·simp at h
 | .B,c::cs,f,out,ho,h=>by
  simp only[Ei]at h;split at h
  ·rename_i b;exact⟨b,[_],cs,rfl,h,⟨.inl ⟨_,rfl,rfl⟩,trivial⟩⟩
  ·simp at h
 | .S,c::cs,f,out,ho,h=>by
  simp only[Ei]at h;split at h
  ·rename_i b;exact⟨b,[_],cs,rfl,h,⟨.inl ⟨_,rfl,rfl⟩,trivial⟩⟩
  ·simp at h
 | .L t,c::cs,f,out,ho,h=>by
  simp only[Ei]at h;obtain⟨ws,h1,h2⟩:=Yab (ho c Ks) h;exact⟨ws,[c],cs,rfl,h1,⟨h2,trivial⟩⟩
 | .H t,c::cs,f,out,ho,h=>by
  simp only[Ei]at h;obtain⟨ws,h1,h2⟩:=Yab (ho c Ks) h;exact⟨some ws,[c],cs,rfl,h1,⟨h2,trivial⟩⟩
 | .P a b,cs,f,out,ho,h=>by
  simp only[Ei]at h;obtain⟨x,c0,c1,rfl,h1,h2⟩:=Mt a cs _ out ho h;obtain⟨y,d0,d1,rfl,h3,h4⟩:=Mt b c1 _ out (fun c hc=>ho c (Khc _ hc)) h1;exact⟨(x,y),c0++d0,d1,by simp,h3,Ab.append h2 h4⟩
 | .I _,[],_,_,_,h=>by simp [Ei]at h
 | .Y,[],_,_,_,h=>by simp [Ei]at h
 | .B,[],_,_,_,h=>by simp [Ei]at h
 | .S,[],_,_,_,h=>by simp [Ei]at h
 | .L _,[],_,_,_,h=>by simp [Ei]at h
 | .H _,[],_,_,_,h=>by simp [Ei]at h
theorem Zgs {β:Type}{R:XRs}{nx st:Nat}{t:Ty}:∀(n:Nat) (cs:List XC) (f:List t.den->Option β) (out:β),(∀c∈cs,okC R nx st c)->S7 R t n cs f=some out ->
  ∃xs,f xs=some out/\xs.length=n/\Ab (CD R) cs (xs.map (Af t)).flatten
 | 0,cs,f,out,ho,h=>by
  simp only[S7]at h;split at h
  ·exact⟨[],h,rfl,trivial⟩
  ·simp at h
 | n+1,cs,f,out,ho,h=>by
  simp only[S7]at h;obtain⟨x,c0,c1,rfl,h1,h2⟩:=Mt t cs _ out ho h;obtain⟨xs,h3,h4,h5⟩:=Zgs n c1 _ out (fun c hc=>ho c (Khc _ hc)) h1;refine⟨x::xs,h3,by simp [h4], ?_⟩;simp only[Kc,Kwc];exact Ab.append h2 h5
theorem La {R:XRs}:∀{cs:List XC}{ds:List D}{ys:List C},Ab (CD R) cs ds->Ab WkC ys (cs.map (cC R))->ys=cs.map (cC R)
 | [],[],[],_,_=>rfl
 | c::cs,d::ds,y::ys,h,hw=>by
  simp only[Kc];rw[<-La h.2 hw.2,hw.1.eq h.1.ne]
 | [],_::_,_,h,_=>h.elim
 | _::_,[],_,h,_=>h.elim
 | [],[],_::_,_,h=>h.elim
 | _::_,_::_,[],_,h=>h.elim
def Dm (R:XRs) (c:XC):Option (Option Nat):=match c with
 | .nl _=>some none
 | .lf _=>some none
 | .i _ _=>some none
 | .y _=>some none
 | .b _=>some none
 | .s _=>some none
 | .rw r=>match lk R r with
  | some (_,.tr _ _)=>some (some r)
  | _=>none
 | .rv r lo _=>match lk R r with
  | some (_,.tr _ _)=>match lo with
   | 0=>some (some r)
   | _=>none
  | _=>none
 | _=>none
def D8 (R:XRs):List XC->Option (List Nat)
 | []=>some []
 | c::cs=>match Dm R c,D8 R cs with
  | some (some r),some l=>some (r::l)
  | some none,some l=>some l
  | _,_=>none
def Mb (r:Nat):List Nat->Bool
 | []=>false
 | x::l=>match Nat.beq x r with
  | true=>true
  | false=>Mb r l
def Mp:List Nat->Bool
 | []=>true
 | r::l=>match Mb r l with
  | true=>false
  | false=>Mp l
theorem Y7 {r:Nat}:∀{l:List Nat},Mb r l=true ↔ r∈l
 | []=>by simp [Mb]
 | x::l=>by
  simp only[Mb];split
  ·rename_i h;simp [Kr h]
  ·rename_i h;have:=Kxe h;rw[Y7,Kh];exact⟨.inr,fun h=>h.resolve_left fun e=>this e.symm⟩
theorem Qr:∀{l:List Nat},Mp l=true->l.Nodup
 | [],_=>List.nodup_nil
 | r::l,h=>by
  simp only[Mp]at h;split at h
  ·simp at h
  ·rename_i hn;rw[Kwa];exact⟨fun hm=>by rw[Y7.2 hm]at hn;simp at hn,Qr h⟩
theorem Zsi (roots:List (Nat×Root)) (r:Nat):Dp roots r []=del roots r:=rfl
theorem V3 {X:XSt}{S:St}(hS:SimX X S){c:XC}{d:D}(h:CD X.roots c d){o:Option Nat}(ho:Dm X.roots c=some o){roots:List (Nat×Root)}(hr:∀r,o=some r->get roots r=get S.roots r) :
  C9 roots (cC X.roots c)=some (d,D2 roots o):=by
 have leaf:∀{v:Value},cC X.roots c=.lf v->o=none->C9 roots (cC X.roots c)=some (d,D2 roots o):=by
  intro v hv e;subst e;rcases h with ⟨v',h1,rfl⟩|⟨n,rfl,_⟩|⟨t,ws,r,p,lo,l,h1,_⟩
  ·rw[h1];rfl
  ·simp [cC]at hv
  ·rw[hv]at h1;simp at h1
 cases c with
 | nl n =>
  simp only[Dm,Ka]at ho;subst ho;rcases h with ⟨v,h1,_⟩|⟨m,h1,rfl⟩|⟨t,ws,r,p,lo,l,h1,_⟩
  ·simp [cC]at h1
  ·simp only[XC.nl.injEq]at h1;subst h1;rfl
  ·simp [cC]at h1
 | lf v=>simp only[Dm,Ka]at ho;exact leaf rfl ho.symm
 | i k z=>simp only[Dm,Ka]at ho;exact leaf rfl ho.symm
 | y b=>simp only[Dm,Ka]at ho;exact leaf rfl ho.symm
 | b x=>simp only[Dm,Ka]at ho;exact leaf rfl ho.symm
 | s l=>simp only[Dm,Ka]at ho;exact leaf rfl ho.symm
 | rw r =>
  simp only[Dm]at ho;split at ho
  ·rename_i s t xs hl;simp only[Ka]at ho;subst ho;obtain⟨y,a,b⟩:=hS.roots r s _ hl _ rfl;have hg:get roots r=some (.tr t.n (xs.map (Af t))):=by
    rw[hr r rfl,a];cases y with
    | tr _ _=>obtain⟨rfl,rfl⟩:=b;rfl
    | _=>exact b.elim
   rcases h with ⟨v,h1,_⟩|⟨m,h1,_⟩|⟨t',ws,r',p,lo,l,h1,h2,h3,h4,rfl,_⟩
   ·simp [cC,hl]at h1
   ·simp at h1
   ·simp only[cC,hl,C.rf.injEq]at h1;obtain⟨rfl,rfl,e3,rfl,e5⟩:=h1;simp only[Cr,hl,Am,Ka,Kb]at h2;obtain⟨_,rfl⟩:=h2;simp only[cC,hl,C9,hg,Am,Kt,Kf,and_self,if_true,Zsi,D2];rw[Kv,<-e5,Kob (by simp)]at h4;rw[Kob (by simp),<-h4,e3]
  ·simp at ho
 | rv r lo n =>
  simp only[Dm]at ho;split at ho
  ·rename_i s t xs hl;split at ho
   ·simp only[Ka]at ho;subst ho;obtain⟨y,a,b⟩:=hS.roots r s _ hl _ rfl;have hg:get roots r=some (.tr t.n (xs.map (Af t))):=by
     rw[hr r rfl,a];cases y with
     | tr _ _=>obtain⟨rfl,rfl⟩:=b;rfl
     | _=>exact b.elim
    rcases h with ⟨v,h1,_⟩|⟨m,h1,_⟩|⟨t',ws,r',p,lo,l,h1,h2,h3,h4,rfl,_⟩
    ·simp [cC,hl]at h1
    ·simp at h1
    ·simp only[cC,hl,C.rf.injEq]at h1;obtain⟨rfl,rfl,e3,rfl,e5⟩:=h1;simp only[Cr,hl,Am,Ka,Kb]at h2;obtain⟨_,rfl⟩:=h2;simp only[Kt,Km,<-e5]at h3;simp only[cC,hl,C9,hg,Am,Kt,h3,and_self,if_true,Zsi,D2];rw[Kv,<-e5]at h4;rw[h4,e3]
   ·simp at ho
  ·simp at ho
 | un=>simp [Dm]at ho
 | rf r v p lo t ws=>simp [Dm]at ho
 | pe r v p i c t x=>simp [Dm]at ho
 | pb r c=>simp [Dm]at ho
theorem Wl {X:XSt}{S:St}(hS:SimX X S):∀(cs:List XC) (ds:List D) (ids:List Nat) (roots:List (Nat×Root)),Ab (CD X.roots) cs ds->D8 X.roots cs=some ids->ids.Nodup->(∀r∈ids,get roots r=get S.roots r) ->
  ∃rt,Ck roots (cs.map (cC X.roots))=some (ds,rt)/\∀r,get rt r=if r∈ids then none else get roots r
 | [],[],ids,roots,_,hi,_,_=>by
  simp only[D8,Ka]at hi;subst hi;exact⟨roots,rfl,fun r=>by simp⟩
 | c::cs,d::ds,ids,roots,h,hi,hn,hr=>by
  simp only[D8]at hi;split at hi
  ·rename_i r l h1 h2;simp only[Ka]at hi;subst hi;rw[Kwa]at hn;have e:=V3 hS h.1 h1 (roots:=roots) (fun q hq=>by simp only[Ka]at hq;subst hq;exact hr _ Ks);obtain⟨rt,e1,e2⟩:=Wl hS cs ds l (del roots r) h.2 h2 hn.2 (fun q hq=>by
    rw[G5,if_neg (fun e=>hn.1 (by rw[e];exact hq))];exact hr q (Ko _ hq))
   refine⟨rt, ?_,fun q=>?_⟩
   ·simp only[Kc,Ck,e,D2,e1]
   ·rw[e2 q,G5];by_cases hq:q∈l
    ·simp [hq]
    ·by_cases he:r=q
     ·subst he;simp
     ·rw[if_neg hq,if_neg he,if_neg (by simp only[Kh,not_or];exact⟨fun e=>he e.symm,hq⟩)]
  ·rename_i l h1 h2;simp only[Ka]at hi;subst hi;have e:=V3 hS h.1 h1 (roots:=roots) (fun q hq=>by simp at hq);obtain⟨rt,e1,e2⟩:=Wl hS cs ds l roots h.2 h2 hn hr;exact⟨rt,by simp only[Kc,Ck,e,D2,e1],e2⟩
  ·simp at hi
 | [],_::_,_,_,h,_,_,_=>h.elim
 | _::_,[],_,_,h,_,_,_=>h.elim
theorem Yx:∀(l:List Nat) (X:XSt),(X.delRs l).env=X.env/\(X.delRs l).next=X.next/\(X.delRs l).fix=X.fix/\X.stamp<=(X.delRs l).stamp
 | [],X=>⟨rfl,rfl,rfl,Kf _⟩
 | r::l,X=>by
  obtain⟨a,b,c,d⟩:=Yx l (X.setR r .gone);exact⟨a,b,c,Kqa (Kac _) d⟩
theorem Jn:∀(l:List Nat) (X:XSt) (r:Nat),(r∈l->∃s,lk (X.delRs l).roots r=some (s,.gone))/\(r ∉ l->lk (X.delRs l).roots r=lk X.roots r)
 | [],X,r=>⟨fun h=>by simp at h,fun _=>rfl⟩
 | q::l,X,r=>by
  obtain⟨a,b⟩:=Jn l (X.setR q .gone) r;refine⟨fun h=>?_,fun h=>?_⟩
  ·by_cases hl:r∈l
   ·exact a hl
   ·have:=(Kh.1 h).resolve_right hl;subst this;refine⟨X.stamp, ?_⟩;show lk ((X.setR r .gone).delRs l).roots r=_;rw[b hl];simp only[XSt.setR];rw[Bf,if_pos rfl]
  ·rw[Kh,not_or]at h;show lk ((X.setR q .gone).delRs l).roots r=_;rw[b h.2];simp only[XSt.setR];rw[Bf,if_neg (fun e=>h.1 e.symm)]
theorem Zuy {X:XSt}{S:St}(hX:XOk X) (hS:SimX X S){r:Nat}(hr:r<X.next):XOk (X.setR r .gone)/\Ext X (X.setR r .gone)/\SimX (X.setR r .gone) S:=by
 obtain⟨a,b⟩:=L6 hX (x:=.gone) (Kf _) hr (fun cs h=>by simp at h);refine⟨a,b, ?_⟩;have:=Ot (X':=X.setR r .gone) (ks:=[]) (roots:=S.roots) hX hS rfl rfl (fun c hc=>K8 (.inr (.inl rfl)) hc) ?_
 ·have e:=hS.next;obtain⟨E,R,n,f⟩:=S;simp only at e;subst e;exact this
 ·intro q s x hl;simp only[XSt.setR]at hl;rw[Bf]at hl;split at hl
  ·simp only[Ka,Kb]at hl;obtain⟨_,rfl⟩:=hl;exact .inr fun y hy=>by simp [cRt]at hy
  ·exact .inl ⟨hl,by rw[Lq]⟩
theorem Yy:∀(l:List Nat){X:XSt}{S:St},XOk X->SimX X S->(∀r∈l,r<X.next)->XOk (X.delRs l)/\Ext X (X.delRs l)/\SimX (X.delRs l) S
 | [],X,S,hX,hS,_=>⟨hX,Ext.refl X,hS⟩
 | r::l,X,S,hX,hS,hr=>by
  obtain⟨a,b,c⟩:=Zuy hX hS (hr r Ks);obtain⟨a',b',c'⟩:=Yy l a c (fun q hq=>hr q (Ko _ hq));exact⟨a',b.trans b',c'⟩
theorem Sy {X:XSt}(hX:XOk X):∀{cs:List XC}{l:List Nat},D8 X.roots cs=some l->∀r∈l,r<X.next
 | [],l,h,r,hr=>by simp only[D8,Ka]at h;subst h;simp at hr
 | c::cs,l,h,r,hr=>by
  simp only[D8]at h;split at h
  ·rename_i q m h1 h2;simp only[Ka]at h;subst h;rcases Kh.1 hr with rfl|hr
   ·cases c with
    | rw q =>
     simp only[Dm]at h1;split at h1
     ·rename_i hl;simp only[Ka]at h1;subst h1;exact (hX.ids _ _ _ hl).1
     ·simp at h1
    | rv q lo n =>
     simp only[Dm]at h1;split at h1
     ·rename_i hl;split at h1
      ·simp only[Ka]at h1;subst h1;exact (hX.ids _ _ _ hl).1
      ·simp at h1
     ·simp at h1
    | _=>simp [Dm]at h1
   ·exact Sy hX h2 r hr
  ·rename_i m h1 h2;simp only[Ka]at h;subst h;exact Sy hX h2 r hr
  ·simp at h
theorem Wi {X:XSt}{E:List (Nat×V)}{R R':List (Nat×Root)}{n f:Nat}(hS:SimX X ⟨E,R,n,f⟩) (h:∀r s x,lk X.roots r=some (s,x)->x≠.gone->get R' r=get R r):SimX X ⟨E,R',n,f⟩:=by
 refine⟨hS.next,hS.fix,hS.env, ?_⟩;intro r s x hl y hy;obtain⟨y',a,b⟩:=hS.roots r s x hl y hy;exact⟨y',by rw[show get R' r=get R r from h r s x hl (fun e=>by subst e;simp [cRt]at hy)];exact a,b⟩
theorem Qp {X:XSt}{E:List (Nat×V)}{R:List (Nat×Root)}{n f:Nat}(hX:XOk X) (hS:SimX X ⟨E,R,n,f⟩){x:XR}{y:Root}(hb:∀cs,x=.bx cs->∀e∈cs,e.1=X.stamp/\okC X.roots X.next X.stamp e.2) (hy:∃y',cRt X.roots x=some y'/\WkR y y') :
  XOk (X.newR x)/\Ext X (X.newR x)/\SimX (X.newR x) ⟨E,(X.next,y)::R,X.next+1,f⟩:=by
 obtain⟨a,b⟩:=L6 hX (x:=x) (Kac _) (Ksa X.next) (fun cs h c e he=>by
  obtain⟨h1,h2⟩:=hb cs h e (Kfa he);exact⟨.inl h1,h2⟩)
 refine⟨a,b, ?_⟩;have key:∀c,okC X.roots X.next X.stamp c->cC ((X.next,X.stamp,x)::X.roots) c=.un\/cC ((X.next,X.stamp,x)::X.roots) c=cC X.roots c:=fun c hc=>K8 (.inl (Kf _)) hc;refine Ot (X':=X.newR x) (ks:=[]) (roots:=(X.next,y)::R) hX hS rfl rfl key ?_;intro q s z hl;simp only[XSt.newR]at hl;rw[Bf]at hl;split at hl
 ·rename_i e;simp only at e;subst e;simp only[Ka,Kb]at hl;obtain⟨_,rfl⟩:=hl;right;intro y1 hy1;obtain⟨y',c1,c2⟩:=hy;refine⟨y,by simp [get], ?_⟩;cases x with
  | tr t xs=>simp only[cRt,Ka]at c1 hy1;subst c1 hy1;exact c2
  | im t xs=>simp only[cRt,Ka]at c1 hy1;subst c1 hy1;exact c2
  | gone=>simp [cRt]at hy1
  | bx cs =>
   simp only[cRt,Ka]at c1 hy1;subst c1 hy1;cases y with
   | bx ys =>
    have h1:Ab WkC ys ((cs.map (·.2)).map (cC X.roots)):=by rw[Krb];exact c2
    have h2:=Wz (ks:=[]) key (fun c hc=>by
     obtain⟨e,he,rfl⟩:=Kca.1 hc;exact (hb cs rfl e he).2) h1
    have h3:ys.map (Ba [])=ys:=by
     have:Ba []=fun c=>c:=by funext c;rfl
     rw[this];simp
    rw[h3,Krb]at h2;exact h2
   | _=>exact c2.elim
 ·rename_i e;left;refine⟨hl, ?_⟩;rw[Lq];simp only[get];rw[if_neg e]
theorem Zo5 {X:XSt}{E:List (Nat×V)}{R:List (Nat×Root)}{n f:Nat}(hX:XOk X) (hS:SimX X ⟨E,R,n,f⟩){r s:Nat}{t t0:Ty}{xs:List t.den}{xs0:List t0.den}(hl:lk X.roots r=some (s,.tr t0 xs0)) (hn:t.n=t0.n) (hlen:xs.length=xs0.length) :
  XOk (X.setR r (.tr t xs))/\Ext X (X.setR r (.tr t xs))/\SimX (X.setR r (.tr t xs)) ⟨E,put R r (.tr t.n (xs.map (Af t))),n,f⟩:=by
 obtain⟨a,b⟩:=L6 hX (x:=.tr t xs) (Kf _) (hX.ids _ _ _ hl).1 (fun cs h=>by simp at h);refine⟨a,b, ?_⟩;have:=Ot (X':=X.setR r (.tr t xs)) (ks:=[]) (roots:=put R r (.tr t.n (xs.map (Af t)))) hX hS rfl rfl (fun c hc=>Zrn (.inr (.inr (.inr ⟨t,t0,xs,xs0,s,rfl,hl,hn,hlen⟩))) hc) ?_
 ·have e:n=X.next:=hS.next;subst e;exact this
 ·intro q s z hq;simp only[XSt.setR]at hq;rw[Bf]at hq;split at hq
  ·rename_i e;simp only at e;subst e;simp only[Ka,Kb]at hq;obtain⟨_,rfl⟩:=hq;right;intro y hy;simp only[cRt,Ka]at hy;subst hy;exact⟨.tr t.n (xs.map (Af t)),by rw[A0,if_pos rfl],rfl,rfl⟩
  ·rename_i e;exact .inl ⟨hq,by rw[Lq,A0,if_neg e]⟩
abbrev Tk:=Nat×Option (Nat×Nat)
def tkX (R:XRs) (c:XC):Option (Option Tk):=match c with
 | .rf r v p lo _ _=>match p,lo with
  | [(i,c)],0=>match lk R r with
   | some (v',.tr _ _)=>match Nat.beq v' v with
    | true=>some (some (r,some (i,c)))
    | false=>none
   | _=>none
  | _,_=>none
 | c=>match Dm R c with
  | some (some r)=>some (some (r,none))
  | some none=>some none
  | none=>none
def Q2 (R:XRs):List XC->Option (List Tk)
 | []=>some []
 | c::cs=>match tkX R c,Q2 R cs with
  | some (some a),some l=>some (a::l)
  | some none,some l=>some l
  | _,_=>none
def Wo (a b:Tk):Bool:=match Nat.beq a.1 b.1 with
 | false=>true
 | true=>match a.2,b.2 with
  | some x,some y=>match Nat.beq x.2 y.2 with
   | true=>false
   | false=>true
  | _,_=>false
def Za1 (a:Tk):List Tk->Bool
 | []=>true
 | b::l=>match Wo a b with
  | true=>Za1 a l
  | false=>false
def Za0:List Tk->Bool
 | []=>true
 | a::l=>match Za1 a l with
  | true=>Za0 l
  | false=>false
def Lu:(t:Ty)->Nat->t.den->Option t.den
 | .H _,c,_=>match c with
  | 0=>some none
  | _=>none
 | .P a b,c,x=>match Nat.ble a.n c with
  | false=>match Lu a c x.1 with
   | some y=>some (y,x.2)
   | none=>none
  | true=>match Lu b (c-a.n) x.2 with
   | some y=>some (x.1,y)
   | none=>none
 | _,_,_=>none
def Wp {β:Type}:List Tk->XSt->(XSt->Option β)->Option β
 | [],X,k=>k X
 | (r,none)::l,X,k=>Wp l (X.setR r .gone) k
 | (r,some (i,c))::l,X,k=>match lk X.roots r with
  | some (_,.tr T xs)=>bnd (idx xs (Int.ofNat i)) fun x=>match Lu T c x with
   | some x'=>Wp l (X.setR r (.tr T (Aq xs i x'))) k
   | none=>none
  | _=>none
theorem Zn4:∀(t:Ty) (c:Nat) (x y:t.den),Lu t c x=some y->c<t.n/\Af t y=(Af t x).set c .hole
 | .H a,c,x,y,h=>by
  unfold Lu at h;cases c with
  | zero=>simp only[Ka]at h;subst h;exact⟨Ksa _,rfl⟩
  | succ c=>simp at h
 | .P a b,c,x,y,h=>by
  unfold Lu at h;split at h
  ·rename_i hb;have hc:c<a.n:=Kgg fun hle=>by rw[Nat.ble_eq_true_of_le hle]at hb;simp at hb
   split at h
   ·rename_i z hz;simp only[Ka]at h;subst h;obtain⟨h1,h2⟩:=Zn4 a c x.1 z hz;refine⟨by simp only[Ty.n];omega, ?_⟩;simp only[Af];rw[List.set_append_left _ _ (by rw[Bt];exact hc),h2]
   ·simp at h
  ·rename_i hb;have hc:=Kea hb;split at h
   ·rename_i z hz;simp only[Ka]at h;subst h;obtain⟨h1,h2⟩:=Zn4 b (c-a.n) x.2 z hz;refine⟨by simp only[Ty.n];omega, ?_⟩;simp only[Af];rw[Kze _ _ (by rw[Bt];exact hc),Bt,h2]
   ·simp at h
 | .I _,c,x,y,h=>by simp [Lu]at h
 | .Y,c,x,y,h=>by simp [Lu]at h
 | .B,c,x,y,h=>by simp [Lu]at h
 | .S,c,x,y,h=>by simp [Lu]at h
 | .L _,c,x,y,h=>by simp [Lu]at h
theorem Yti {es:List (List D)}{i c j d:Nat}{z:D}(h:i≠j\/c≠d) (sz:Nat):Am sz (Fd es i c z) [(j,d)]=Am sz es [(j,d)]:=by
 unfold Fd;cases he:es[i]? with
 | none=>rfl
 | some e =>
  simp only[Am];by_cases hij:i=j
  ·subst hij;have hlt:i<es.length:=(Kja.1 he).1;rw[Kzc hlt,he];simp only[Kra];rw[Kkd (h.resolve_left (fun h=>h rfl))]
  ·rw[Kkd hij]
def Jj (S0 roots:List (Nat×Root)):Tk->Prop
 | (r,none)=>get roots r=get S0 r
 | (r,some (i,c))=>∃sz es es0,get S0 r=some (.tr sz es0)/\get roots r=some (.tr sz es)/\Am sz es [(i,c)]=Am sz es0 [(i,c)]
theorem Ya4 {a b:Tk}(h:Wo a b=true):a.1≠b.1\/∃x y,a.2=some x/\b.2=some y/\x.2≠y.2:=by
 unfold Wo at h;split at h
 ·rename_i hb;exact .inl (Kxe hb)
 ·split at h
  ·rename_i x y h1 h2;split at h
   ·simp at h
   ·rename_i hb;exact .inr ⟨x,y,h1,h2,Kxe hb⟩
  ·simp at h
theorem Ya5 {a:Tk}:∀{l:List Tk},Za1 a l=true->∀b∈l,Wo a b=true
 | [],_,b,hb=>by simp at hb
 | c::l,h,b,hb=>by
  simp only[Za1]at h;split at h
  ·rename_i hc;rcases Kh.1 hb with rfl|hb
   ·exact hc
   ·exact Ya5 h b hb
  ·simp at h
theorem Yi7 {S0 roots:List (Nat×Root)}{r i c sz:Nat}{es:List (List D)}{z:D}{b:Tk}(hg:get roots r=some (.tr sz es)) (h:Wo (r,some (i,c)) b=true) (hb:Jj S0 roots b):Jj S0 (put roots r (.tr sz (Fd es i c z))) b:=by
 obtain⟨q,o⟩:=b;rcases Ya4 h with h'|⟨x,y,h1,h2,h3⟩
 ·have h':r≠q:=h';cases o with
  | none=>simp only[Jj]at hb ⊢;rw[A0,if_neg h'];exact hb
  | some jd=>obtain⟨j,d⟩:=jd;simp only[Jj]at hb ⊢;rw[A0,if_neg h'];exact hb
 ·simp only[Ka]at h1 h2;subst h1 h2;obtain⟨j,d⟩:=y;by_cases hrq:r=q
  ·subst hrq;obtain⟨sz',es',es0,b1,b2,b3⟩:=hb;rw[hg]at b2;simp only[Ka,Root.tr.injEq]at b2;obtain⟨rfl,rfl⟩:=b2;exact⟨_,_,es0,b1,by rw[A0,if_pos rfl],by rw[Yti (.inr h3)];exact b3⟩
  ·simp only[Jj]at hb ⊢;rw[A0,if_neg hrq];exact hb
theorem Yi6 {S0 roots:List (Nat×Root)}{r:Nat}{b:Tk}(h:Wo (r,none) b=true) (hb:Jj S0 roots b):Jj S0 (del roots r) b:=by
 obtain⟨q,o⟩:=b;rcases Ya4 h with h'|⟨x,y,h1,h2,h3⟩
 ·have h':r≠q:=h';cases o with
  | none=>simp only[Jj]at hb ⊢;rw[G5,if_neg h'];exact hb
  | some jd=>obtain⟨j,d⟩:=jd;simp only[Jj]at hb ⊢;rw[G5,if_neg h'];exact hb
 ·simp at h1
theorem Yd7 {X:XSt}{S:St}(hS:SimX X S){r v i c:Nat}{t:Ty}{ws:List t.den}{d:D}(h:CD X.roots (.rf r v [(i,c)] 0 t ws) d) (hv:Co X.roots r v=true){roots:List (Nat×Root)}(hg:Jj S.roots roots (r,some (i,c))) :
  ∃sz es,get roots r=some (.tr sz es)/\C9 roots (cC X.roots (.rf r v [(i,c)] 0 t ws))=some (d,put roots r (.tr sz (Fd es i c .hole))):=by
 obtain⟨sz,es,es0,g1,g2,g3⟩:=hg;refine⟨sz,es,g2, ?_⟩;rcases h with ⟨u,h1,_⟩|⟨n,h1,_⟩|⟨t',ws',r',p,lo,l,h1,h2,h3,h4,rfl,_⟩
 ·simp [cC,hv]at h1
 ·simp at h1
 ·simp only[cC,hv,C.rf.injEq]at h1;obtain⟨rfl,rfl,e3,rfl,e5⟩:=h1;have hn:=Vz hS h2;unfold Dl at hn;rw[g1]at hn;have hn':Am sz es [(i,c)]=some (t'.n,l):=g3.trans hn;simp only[cC,hv,C9,g2,hn',e3,e5];rw[if_pos ⟨trivial,by omega⟩];rw[Kv]at h4;rw[h4];simp only[Dp,g2];rw[show Rz es [(i,c)]=Fd es i c .hole from Zkh es [] i c]
theorem Zpv {R : XRs} {c : XC} (h : ∀ r v p lo t ws, c ≠ .rf r v p lo t ws) {o : Option Tk} (ho : tkX R c = some o) : (o = none ∧ Dm R c = some none) ∨ ∃ r, o = some (r, none) ∧ Dm R c = some (some r) := by
  cases c <;> first
    | (exfalso; exact h _ _ _ _ _ _ rfl)
    | (simp only [tkX] at ho
       split at ho
       · rename_i r hr; simp only [Ka] at ho; exact .inr ⟨r, ho.symm, hr⟩
       · rename_i hr; simp only [Ka] at ho; exact .inl ⟨ho.symm, hr⟩
       · simp at ho)
theorem Zhq {β:Type}{out:β}{X:XSt}{S:St}(hX0:XOk X) (hS:SimX X S){k:XSt->Option β}:∀(cs:List XC) (ds:List D) (tks:List Tk) (X1:XSt) (roots1:List (Nat×Root)),Ab (CD X.roots) cs ds->Q2 X.roots cs=some tks->Za0 tks=true->XOk X1->SimX X1 ⟨S.env,roots1,S.next,S.fix⟩ ->
  (∀a∈tks,Jj S.roots roots1 a)->Wp tks X1 k=some out ->
  ∃X2 rt,k X2=some out/\Ck roots1 (cs.map (cC X.roots))=some (ds,rt)/\XOk X2/\Ext X1 X2/\SimX X2 ⟨S.env,rt,S.next,S.fix⟩/\X2.env=X1.env/\X2.next=X1.next/\∀r s x,lk X2.roots r=some (s,x)->s<X1.stamp->get rt r=get roots1 r
 | [],[],tks,X1,roots1,_,ht,_,hX,h1,_,h=>by
  simp only[Q2,Ka]at ht;subst ht;exact⟨X1,roots1,h,rfl,hX,Ext.refl _,h1,rfl,rfl,fun _ _ _ _ _=>rfl⟩
 | c::cs,d::ds,tks,X1,roots1,hcd,ht,hdis,hX,h1,hgood,h=>by
  simp only[Q2]at ht;have nx:S.next=X1.next:=h1.next;split at ht
  ·rename_i a l ha hl;simp only[Ka]at ht;subst ht;have hdis':Za1 a l=true/\Za0 l=true:=by
    simp only[Za0]at hdis;split at hdis
    ·rename_i h1;exact⟨h1,hdis⟩
    ·simp at hdis
   have hoff:=Ya5 hdis'.1;by_cases hrf:∃r v p lo t ws,c=.rf r v p lo t ws
   ·obtain⟨r,v,p,lo,t,ws,rfl⟩:=hrf;simp only[tkX]at ha;split at ha
    ·rename_i i j;split at ha
     ·rename_i v' T0 xs0 hl0;split at ha
      ·rename_i hb;have hb:=Kr hb;subst hb;simp only[Ka]at ha;subst ha;obtain⟨sz,es,g1,g2⟩:=Yd7 hS hcd.1 (Ly hl0) (hgood _ Ks);simp only[Wp]at h;split at h
       ·rename_i s1 T xs hl1;obtain⟨x,hx,h⟩:=F5 h;split at h
        ·rename_i x' hp;obtain⟨p1,p2⟩:=Zn4 T j x x' hp;obtain⟨z,z1,z2⟩:=h1.roots r s1 _ hl1 _ rfl;simp only at z1;rw[g1]at z1;simp only[Ka]at z1;subst z1;obtain⟨rfl,rfl⟩:=z2;have hxi:xs[i]? = some x:=by simpa [idx] using hx
         have hset:Fd (xs.map (Af T)) i j .hole=(Aq xs i x').map (Af T):=by
          simp only[Fd,Kga,hxi,Kna,Aq,Khe,p2]
         obtain⟨a1,a2,a3⟩:=Zo5 (t:=T) (xs:=Aq xs i x') hX h1 hl1 rfl (by simp [Aq]);rw[hset]at g2;obtain⟨X2,rt,c1,c2,c3,c4,c5,c6,c7,c8⟩:=Zhq hX0 hS cs ds l _ _ hcd.2 hl hdis'.2 a1 a3 (fun b hb=>by
          rw[<-hset];exact Yi7 g1 (hoff b hb) (hgood b (Ko _ hb))) h
         refine⟨X2,rt,c1, ?_,c3,a2.trans c4,c5,c6,c7,fun q s x hq hs=>?_⟩
         ·simp only[Kc,Ck,g2,c2]
         ·rw[c8 q s x hq (Kqb hs),A0];split
          ·rename_i e;subst e;have:=c4.roots r s x hq (Kqb hs);simp only[XSt.setR]at this;rw[Bf,if_pos rfl]at this;simp only[Ka,Kb]at this;omega
          ·rfl
        ·simp at h
       ·simp at h
      ·simp at ha
     ·simp at ha
    ·simp at ha
   ·rcases Zpv (fun r v p lo t ws e=>hrf ⟨r,v,p,lo,t,ws,e⟩) ha with ⟨h0,_⟩|⟨r,h0,ho⟩
    ·simp at h0
    ·simp only[Ka]at h0;subst h0;have hg:=V3 hS hcd.1 ho (roots:=roots1) (fun q hq=>by
      simp only[Ka]at hq;subst hq;exact hgood _ Ks)
     have hlt:r<X1.next:=by
      rw[<-nx,hS.next];exact Sy hX0 (cs:=[c]) (l:=[r]) (by simp only[D8,ho]) r Ks
     simp only[Wp]at h;obtain⟨a1,a2,a3⟩:=Zuy hX h1 hlt;have a3':SimX (X1.setR r .gone) ⟨S.env,del roots1 r,S.next,S.fix⟩:=by
      refine Wi a3 fun q s x hq hx=>?_;simp only[XSt.setR]at hq;rw[Bf]at hq;split at hq
      ·simp only[Ka,Kb]at hq;exact (hx hq.2.symm).elim
      ·rename_i e;rw[G5,if_neg e]
     obtain⟨X2,rt,c1,c2,c3,c4,c5,c6,c7,c8⟩:=Zhq hX0 hS cs ds l _ _ hcd.2 hl hdis'.2 a1 a3' (fun b hb=>Yi6 (hoff b hb) (hgood b (Ko _ hb))) h;refine⟨X2,rt,c1, ?_,c3,a2.trans c4,c5,c6,c7,fun q s x hq hs=>?_⟩
     ·simp only[Kc,Ck,hg,D2,c2]
     ·rw[c8 q s x hq (Kqb hs),G5];split
      ·rename_i e;subst e;have:=c4.roots r s x hq (Kqb hs);simp only[XSt.setR]at this;rw[Bf,if_pos rfl]at this;simp only[Ka,Kb]at this;omega
      ·rfl
  ·rename_i l ha hl;simp only[Ka]at ht;subst ht;have hnrf:∀r v p lo t ws,c≠.rf r v p lo t ws:=by
    intro r v p lo t ws e;subst e;simp only[tkX]at ha;split at ha
    ·split at ha
     ·split at ha<;>simp at ha
     ·simp at ha
    ·simp at ha
   rcases Zpv hnrf ha with ⟨_,ho⟩|⟨r,h0,_⟩
   ·have hg:=V3 hS hcd.1 ho (roots:=roots1) (fun q hq=>by simp at hq);obtain⟨X2,rt,c1,c2,c3⟩:=Zhq hX0 hS cs ds l _ _ hcd.2 hl hdis hX h1 hgood h;exact⟨X2,rt,c1,by simp only[Kc,Ck,hg,D2,c2],c3⟩
   ·simp at h0
  ·simp at ht
 | [],_::_,_,_,_,h,_,_,_,_,_,_=>h.elim
 | _::_,[],_,_,_,h,_,_,_,_,_,_=>h.elim
theorem Zpw {X:XSt}{S:St}(hS:SimX X S):∀{cs:List XC}{tks:List Tk},Q2 X.roots cs=some tks->∀a∈tks,Jj S.roots S.roots a
 | [],tks,h,a,ha=>by simp only[Q2,Ka]at h;subst h;simp at ha
 | c::cs,tks,h,a,ha=>by
  simp only[Q2]at h;split at h
  ·rename_i b l hb hl;simp only[Ka]at h;subst h;rcases Kh.1 ha with rfl|ha
   ·by_cases hrf:∃r v p lo t ws,c=.rf r v p lo t ws
    ·obtain⟨r,v,p,lo,t,ws,rfl⟩:=hrf;simp only[tkX]at hb;split at hb
     ·split at hb
      ·rename_i v' T0 xs0 hl0;split at hb
       ·simp only[Ka]at hb;subst hb;obtain⟨z,z1,z2⟩:=hS.roots r _ _ hl0 _ rfl;cases z with
        | tr _ _=>exact⟨_,_,_,z1,z1,rfl⟩
        | _=>exact z2.elim
       ·simp at hb
      ·simp at hb
     ·simp at hb
    ·rcases Zpv (fun r v p lo t ws e=>hrf ⟨r,v,p,lo,t,ws,e⟩) hb with ⟨h0,_⟩|⟨r,h0,ho⟩
     ·simp at h0
     ·simp only[Ka]at h0;subst h0;rfl
   ·exact Zpw hS hl a ha
  ·rename_i l hb hl;simp only[Ka]at h;subst h;exact Zpw hS hl a ha
  ·simp at h
def hT:Ty->Ty
 | .L t=>.H t
 | .P a b=>.P (hT a) (hT b)
 | t=>t
theorem Zff:∀t:Ty,(hT t).n=t.n
 | .I _=>rfl
 | .Y=>rfl
 | .B=>rfl
 | .S=>rfl
 | .L _=>rfl
 | .H _=>rfl
 | .P a b=>by simp only[hT,Ty.n,Zff a,Zff b]
def up1:(t:Ty)->t.den->(hT t).den
 | .I _,z=>z
 | .Y,z=>z
 | .B,z=>z
 | .S,z=>z
 | .L _,xs=>some xs
 | .H _,o=>o
 | .P a b,x=>(up1 a x.1,up1 b x.2)
def Vg:(t:Ty)->t.den->(hT t).den
 | .I _,z=>z
 | .Y,z=>z
 | .B,z=>z
 | .S,z=>z
 | .L _,_=>none
 | .H _,_=>none
 | .P a b,x=>(Vg a x.1,Vg b x.2)
def mvW (t:Ty) (lo n:Nat) (xs:List t.den):List (hT t).den:=(xs.take lo).map (up1 t)++(((xs.drop lo).take n).map (Vg t)++(xs.drop (lo+n)).map (up1 t))
theorem Zqc:∀(t:Ty) (x:t.den),Af (hT t) (up1 t x)=Af t x
 | .I _,_=>rfl
 | .Y,_=>rfl
 | .B,_=>rfl
 | .S,_=>rfl
 | .L _,_=>rfl
 | .H _,_=>rfl
 | .P a b,x=>by simp only[hT,up1,Af,Zqc a,Zqc b]
theorem Zl1:∀(t:Ty) (x:t.den),Af (hT t) (Vg t x)=(Af t x).map Qb
 | .I _,_=>rfl
 | .Y,_=>rfl
 | .B,_=>rfl
 | .S,_=>rfl
 | .L _,_=>rfl
 | .H _,none=>rfl
 | .H _,some _=>rfl
 | .P a b,x=>by simp only[hT,Vg,Af,Zl1 a,Zl1 b,Kaa]
theorem Yqn (t:Ty) (lo n:Nat) (xs:List t.den):(mvW t lo n xs).map (Af (hT t))=Mc lo n (xs.map (Af t)):=by
 have h1:(Af (hT t) ∘ up1 t)=Af t:=by funext x;exact Zqc t x
 have h2:(Af (hT t) ∘ Vg t)=fun x=>(Af t x).map Qb:=by funext x;exact Zl1 t x
 simp only[mvW,Mc,Kaa,Krb,h1,h2,Kib,Kkb];congr 2
theorem Zws (t:Ty) (lo n:Nat) (xs:List t.den) (h:lo+n<=xs.length):(mvW t lo n xs).length=xs.length:=by
 simp only[mvW,Kz,Kt,Kab,Kpa];omega
def noL:Ty->Bool
 | .L _=>false
 | .P a b=>noL a&&noL b
 | _=>true
def Lp:(t:Ty)->t.den->t.den
 | .I _,z=>z
 | .Y,z=>z
 | .B,z=>z
 | .S,z=>z
 | .L _,z=>z
 | .H _,_=>none
 | .P a b,x=>(Lp a x.1,Lp b x.2)
theorem Znn:∀(t:Ty),noL t=true->∀x:t.den,Af t (Lp t x)=(Af t x).map Qb
 | .I _,_,_=>rfl
 | .Y,_,_=>rfl
 | .B,_,_=>rfl
 | .S,_,_=>rfl
 | .L _,h,_=>by simp [noL]at h
 | .H _,_,none=>rfl
 | .H _,_,some _=>rfl
 | .P a b,h,x=>by
  simp only[noL,Kd]at h;simp only[Lp,Af,Znn a h.1,Znn b h.2,Kaa]
def Vf:(t:Ty)->t.den
 | .I _=>(0:Int)
 | .Y=>(0:UInt8)
 | .B=>false
 | .S=>([]:List UInt8)
 | .L t=>([]:List t.den)
 | .H t=>(none:Option (List t.den))
 | .P a b=>(Vf a,Vf b)
def Hd {β:Type}(r v j:Nat):(t:Ty)->Nat->List XC->(t.den->List XC->Option β)->Option β
 | .I k,_,y::ys,f=>match toI y with
  | some (k',z)=>match kEq k k' with
   | true=>f z ys
   | false=>none
  | none=>none
 | .Y,_,y::ys,f=>match y with
  | .y b=>f b ys
  | _=>none
 | .B,_,y::ys,f=>match y with
  | .b x=>f x ys
  | _=>none
 | .S,_,y::ys,f=>match y with
  | .s l=>f l ys
  | _=>none
 | .H t0,c,y::ys,f=>match y with
  | .rf r' v' p lo t' ws=>match p,lo with
   | [(j',c')],0=>match Nat.beq r' r&&(Nat.beq v' v&&Nat.beq c' c) with
    | true=>chk (nEq j' j) (Ps t' t0 ws fun ws=>f (some ws) ys)
    | false=>none
   | _,_=>none
  | _=>none
 | .P a b,c,ys,f=>Hd r v j a c ys fun x ys=>Hd r v j b (c+a.n) ys fun y ys=>f (x,y) ys
 | _,_,_,_=>none
def Zlp:List XC->Option Nat
 | []=>none
 | .rf _ _ p _ _ _::l=>match p with
  | [(j,_)]=>some j
  | _=>Zlp l
 | _::l=>Zlp l
def MvC (r j c:Nat) (ej:List D) (y:C) (d:D):Prop:=(∃u,y=.lf u/\d=.lf u)\/∃s n l,y=.rf r [(j,c)] s 0 n/\ej[c]? = some (.sl s l)/\n<=l.length/\d=.sl s (l.take n)
def Ie (r j:Nat) (ej:List D):Nat->List C->List D->Prop
 | _,[],[]=>True
 | c,y::ys,d::ds=>MvC r j c ej y d/\Ie r j ej (c+1) ys ds
 | _,_,_=>False
theorem Ie.append {r j:Nat}{ej:List D}:∀{c:Nat}{ys:List C}{ds:List D}{ys':List C}{ds':List D},Ie r j ej c ys ds->Ie r j ej (c+ys.length) ys' ds'->Ie r j ej c (ys++ys') (ds++ds')
 | _,[],[],_,_,_,h=>by simpa using h
 | c,_::ys,_::ds,_,_,h,h'=>⟨h.1,Ie.append h.2 (by rw[show c+1+ys.length=c+(ys.length+1) by omega];exact h')⟩
 | _,[],_::_,_,_,h,_=>h.elim
 | _,_::_,[],_,_,h,_=>h.elim
def mvd:List C->List D->List D
 | y::ys,d::ds=>(match y with
  | .lf _=>d
  | _=>.hole)::mvd ys ds
 | _,ds=>ds
theorem Zwt:∀{ys:List C}{ds:List D}{ys':List C}{ds':List D},ys.length=ds.length->mvd (ys++ys') (ds++ds')=mvd ys ds++mvd ys' ds'
 | [],[],ys',ds',_=>by cases ys'<;>cases ds'<;>rfl
 | y::ys,d::ds,ys',ds',h=>by
  simp only[Kl,mvd];rw[Zwt (by simpa using h)]
 | [],_::_,_,_,h=>by simp at h
 | _::_,[],_,_,h=>by simp at h
theorem Znk {β:Type}{out:β}{R:XRs}{nx st r v j sz:Nat}{l:List (List D)}{ej:List D}(hv:Co R r v=true) (hn:Cr R r []=some (sz,l)) (hj:l[j]? = some ej):∀(t:Ty) (c:Nat) (ys:List XC) (f:t.den->List XC->Option β),(∀y∈ys,okC R nx st y)->Hd r v j t c ys f=some out ->
  ∃x ys0 rest,ys=ys0++rest/\f x rest=some out/\Ie r j ej c (ys0.map (cC R)) (Af t x)/\ys0.length=t.n/\(∀y∈ys0,cC R y≠.un)/\∀z:t.den,mvd (ys0.map (cC R)) (Af t z)=(Af t z).map Qb
 | .I k,c,y::ys,f,ho,h=>by
  simp only[Hd]at h;split at h
  ·rename_i k' z hz;split at h
   ·rename_i hk;simp only[kEq,decide_eq_true_eq]at hk;subst hk;refine⟨z,[y],ys,rfl,h,⟨.inl ⟨_,Mz hz,rfl⟩,trivial⟩,rfl, ?_,fun z'=>by simp only[Kc,Khb,Mz hz];rfl⟩;intro y' hy;simp only[Kta]at hy;subst hy;rw[Mz hz];simp
   ·simp at h
  ·simp at h
 | .Y,c,y::ys,f,ho,h=>by
  simp only[Hd]at h;split at h
  ·rename_i b;exact⟨b,[.y b],ys,rfl,h,⟨.inl ⟨_,rfl,rfl⟩,trivial⟩,rfl,by intro y' hy;simp only[Kta]at hy;subst hy;simp [cC],fun z=>rfl⟩
  ·simp at h
 | .B,c,y::ys,f,ho,h=>by
  simp only[Hd]at h;split at h
  ·rename_i b;exact⟨b,[.b b],ys,rfl,h,⟨.inl ⟨_,rfl,rfl⟩,trivial⟩,rfl,by intro y' hy;simp only[Kta]at hy;subst hy;simp [cC],fun z=>rfl⟩
  ·simp at h
 | .S,c,y::ys,f,ho,h=>by
  simp only[Hd]at h;split at h
  ·rename_i b;exact⟨b,[.s b],ys,rfl,h,⟨.inl ⟨_,rfl,rfl⟩,trivial⟩,rfl,by intro y' hy;simp only[Kta]at hy;subst hy;simp [cC],fun z=>rfl⟩
  ·simp at h
 | .H t0,c,y::ys,f,ho,h=>by
  simp only[Hd]at h;split at h
  ·rename_i r' v' p lo t' ws;split at h
   ·rename_i j' c';split at h
    ·rename_i hb;simp only[Kd]at hb;have b1:=Kr hb.1;have b2:=Kr hb.2.1;have b3:=Kr hb.2.2;subst b1 b2 b3;obtain⟨hjj,h'⟩:=Di h;simp only[nEq,decide_eq_true_eq]at hjj;subst hjj;obtain⟨ws',h1,rfl,h3,h4⟩:=Uu h';obtain⟨_,_,o3⟩:=ho _ Ks;obtain⟨l',q1,q2,q3⟩:=o3 hv;rw[show [(j',c')]=[]++[(j',c')] from rfl,Zz hn,hj]at q1;simp only[Kra]at q1;rw[Km]at q2;rw[Kv]at q3;have hc:∃es,ej[c']? = some (.sl t'.n es)/\es=l':=by
      split at q1
      ·rename_i s es he;simp only[Ka,Kb]at q1;obtain⟨rfl,rfl⟩:=q1;exact⟨_,he,rfl⟩
      ·simp at q1
     obtain⟨es,hc,rfl⟩:=hc;refine⟨some ws',[_],ys,rfl,h1,⟨.inr ⟨t'.n,ws.length,es,by simp only[cC,hv],hc,q2, ?_⟩,trivial⟩,rfl, ?_,fun z=>by cases z<;>simp only[Kc,Khb,cC,hv]<;>rfl⟩
     ·simp only[Af];rw[q3,h3]
     ·intro y' hy;simp only[Kta]at hy;subst hy;simp [cC,hv]
    ·simp at h
   ·simp at h
  ·simp at h
 | .P a b,c,ys,f,ho,h=>by
  simp only[Hd]at h;obtain⟨x,ys0,rest,rfl,h,h2,h3,h4,h5⟩:=Znk hv hn hj a c ys _ ho h;obtain⟨y,ys1,rest1,rfl,h,g2,g3,g4,g5⟩:=Znk hv hn hj b _ rest _ (fun y hy=>ho y (Khc _ hy)) h;refine⟨(x,y),ys0++ys1,rest1,by simp,h, ?_,by simp only[Kz,h3,g3,Ty.n], ?_,fun z=>by
   simp only[Kaa,Af];rw[Zwt (by rw[Kt,h3,Bt]),h5,g5]⟩
  ·simp only[Kaa,Af];exact Ie.append h2 (by rw[Kt,h3];exact g2)
  ·intro z hz;rcases Kia.1 hz with hz|hz
   ·exact h4 z hz
   ·exact g4 z hz
 | .L _,_,ys,_,_,h=>by cases ys<;>simp [Hd]at h
 | .I _,_,[],_,_,h=>by simp [Hd]at h
 | .Y,_,[],_,_,h=>by simp [Hd]at h
 | .B,_,[],_,_,h=>by simp [Hd]at h
 | .S,_,[],_,_,h=>by simp [Hd]at h
 | .H _,_,[],_,_,h=>by simp [Hd]at h
end Go.Vs
namespace Go.Vs
variable [Glb]
def Zbh:(t:Ty)->t.den
 | .I _=>(0:Int)
 | .Y=>(0:UInt8)
 | .B=>false
 | .S=>([]:List UInt8)
 | .L t=>([]:List t.den)
 | .H t=>(some []:Option (List t.den))
 | .P a b=>(Zbh a,Zbh b)
def zc:Ty->List C
 | .I k=>[.lf (.int k 0)]
 | .Y=>[.lf (.int .u8 0)]
 | .B=>[.lf (.bool false)]
 | .S=>[.lf (.string ⟨#[]⟩)]
 | .L t=>[.nl t.n]
 | .H t=>[.nl t.n]
 | .P a b=>zc a++zc b
def eqC:C->C->Bool
 | .lf (.int k z),.lf (.int k' z')=>decide (k=k')&&decide (z=z')
 | .lf (.bool a),.lf (.bool b)=>a==b
 | .lf (.string a),.lf (.string b)=>a.data.toList.isEmpty&&b.data.toList.isEmpty
 | .nl a,.nl b=>Nat.beq a b
 | _,_=>false
def R4:List C->List C->Bool
 | [],[]=>true
 | a::as,b::bs=>eqC a b&&R4 as bs
 | _,_=>false
inductive Hn where
 | no
 | el (t:Ty)
 | sb
 deriving Inhabited
def Qn (z:Int) (bytes:Nat):Bool:=decide (0<=z/\z*bytes<=140737488355328/\z<=9223372036854775807)
def Om:XC->Option Nat
 | .rw r=>some r
 | .rv r _ _=>some r
 | .rf r _ _ _ _ _=>some r
 | _=>none
def Zpo {β:Type}(X:XSt) (n:Nat) (p v:XV) (k:XV->XSt->Option β):Option β:=match p,Hr v with
 | .a (.c (.pb r c)),some ys=>match lk X.roots r with
  | some (_,.bx cs)=>match Nat.beq ys.length n&&Nat.ble (c+n) cs.length with
   | true=>k .un (X.setR r (.bx (cs.take c++(ys.map (fun y=>(X.stamp,y))++cs.drop (c+n)))))
   | false=>none
  | _=>none
 | .a (.c (.pe r v [] i c t e)),some ys=>match lk X.roots r with
  | some (v',.tr t' xs)=>if ht:t'=t then match Nat.beq v' v&&Nat.beq ys.length n&&Nat.ble (c+n) t.n,D8 X.roots ys with
   | true,some ids=>match Mp ids&&!Mb r ids&&(ids.isEmpty&&(ys.all fun y=>match y with|.nl _=>false|_=>true)||Nat.ble X.fix r) with
    | true=>Pw ((hsO t e).take c) (Pw (((hsO t e).drop (c+n)).take t.n) (Ei X.roots t ((Ii r v [] i t e 0).take c++(ys++(Ii r v [] i t e 0).drop (c+n))) fun e' rest=>match rest with
     | []=>k .un ((X.delRs ids).setR r (.tr t (Aq (ht ▸ xs) i e')))
     | _=>none))
    | false=>none
   | true,none=>match Nat.beq c 0&&(Nat.beq n t.n&&(noL t&&Nat.ble X.fix r)) with
    | true=>match Zlp ys with
     | some j=>chk (nNe i j) (bnd (idx (ht ▸ xs:List t.den) (Int.ofNat j)) fun ej=>Hd r v j t 0 ys fun e' rest=>match rest with
      | []=>k .un (X.setR r (.tr t (Aq (Aq (ht ▸ xs) i e') j (Lp t ej))))
      | _=>none)
     | none=>none
    | false=>none
   | _,_=>none
   else none
  | _=>none
 | _,_=>none
def Zdw (X:XSt) (x:XV) (h:Hn):Option ((t:Ty)×List t.den×Option Nat):=match x with
 | .a (.c (.nl _))=>match h with
  | .el t=>some ⟨t,[],none⟩
  | _=>none
 | .a (.c (.rw r))=>match lk X.roots r with
  | some (_,.tr t xs)=>some ⟨t,xs,some r⟩
  | _=>none
 | _=>none
def Zy0:XC->Option (Nat×Nat×Nat)
 | .rv r lo n=>some (r,lo,n)
 | _=>none
def Et:Option Nat->List Nat
 | none=>[]
 | some r=>[r]
def wrX {β:Type}(X:XSt) (h:Hn) (j:W) (k:XV->XSt->Option β):Option β:=match j with
 | .alloc zero=>match zero.all Me with
  | true=>k (.a (.c (.pb X.next 0))) (X.newR (.bx (zero.map fun c=>(X.stamp,ofC c))))
  | false=>none
 | .box x=>match Hr (X.opd x) with
  | some cs=>k (.a (.c (.pb X.next 0))) (X.newR (.bx (cs.map fun c=>(X.stamp,c))))
  | none=>none
 | .store n x v=>Zpo X n (X.opd x) (X.opd v) k
 | .mks sz bytes zero l c=>match h,Lj (X.opd l),Lj (X.opd c) with
  | .el t,some z,some z'=>match R4 zero (zc t)&&Nat.beq sz t.n with
   | true=>chk (iEq z' z) (chk (Qn z bytes) (k (.a (.c (.rw X.next))) (X.newR (.tr t (Fu (nOf z) (Zbh t))))))
   | false=>none
  | _,_,_=>none
 | .lit sz len zero parts=>match zero.all Me with
  | true=>match U7 X ((rep len zero).map ofC) (parts.map fun x=>(x.1*sz,sz,x.2)) with
   | some cs=>match h with
    | .sb=>k (.sb X.next len) (X.newR (.bx (cs.map fun c=>(X.stamp,c))))
    | .el t=>match D8 X.roots cs with
     | some ids=>match Mp ids&&Nat.beq sz t.n with
      | true=>S7 X.roots t len cs fun xs=>k (.a (.c (.rw X.next))) ((X.delRs ids).newR (.tr t xs))
      | false=>none
     | none=>match Q2 X.roots cs with
      | some tks=>match Za0 tks&&Nat.beq sz t.n with
       | true=>S7 X.roots t len cs fun xs=>Wp tks X fun X1=>k (.a (.c (.rw X1.next))) (X1.newR (.tr t xs))
       | false=>none
      | none=>none
    | .no=>none
   | none=>none
  | false=>none
 | .s2b x=>match X.opd x with
  | .a (.c (.s l))=>k (.a (.c (.rw X.next))) (X.newR (.tr .Y l))
  | _=>none
 | .app sz bytes _ x y=>match Zdw X (X.opd x) h,X.opd y with
  | some ⟨t,xs,ro⟩,.a (.c (.nl _))=>match Nat.beq sz t.n&&(match X.opd x with|.a (.c (.nl n))=>Nat.beq n sz|_=>true) with
   | true=>chk (A6 xs.length bytes) (k (.a (.c (.rw X.next))) ((X.delRs (Et ro)).newR (.tr t xs)))
   | false=>none
  | some ⟨t,xs,ro⟩,.a (.c c)=>match Nat.beq sz t.n&&(match X.opd x with|.a (.c (.nl n))=>Nat.beq n sz|_=>true) with
   | true=>match Om c with
    | some ry=>match Mb ry (Et ro) with
     | true=>none
     | false=>O5 X.roots c fun t' ws=>Ru t' t ws fun ws=>chk (A6 (xs.length+ws.length) bytes) (match t.flat with
      | true=>k (.a (.c (.rw X.next))) ((X.delRs (Et ro)).newR (.tr t (Al xs ws)))
      | false=>match Zy0 c with
       | some (r,lo,m)=>match lk X.roots r with
        | some (_,.tr T0 xs0)=>k (.a (.c (.rw X.next))) (((X.delRs (Et ro)).setR r (.tr (hT T0) (mvW T0 lo m xs0))).newR (.tr t (Al xs ws)))
        | _=>none
       | none=>match Dm X.roots c with
        | some (some r)=>k (.a (.c (.rw X.next))) ((X.delRs (r::Et ro)).newR (.tr t (Al xs ws)))
        | _=>none)
    | none=>none
   | false=>none
  | _,_=>none
 | .aps _ x y=>match Zdw X (X.opd x) (.el .Y),X.opd y with
  | some ⟨.Y,xs,ro⟩,.a (.c (.s l))=>match (match X.opd x with|.a (.c (.nl n))=>Nat.beq n 1|_=>true) with
   | true=>chk (A6 (xs.length+l.length) 1) (k (.a (.c (.rw X.next))) ((X.delRs (Et ro)).newR (.tr .Y (Al xs l))))
   | false=>none
  | _,_=>none
 | .clr sz zero x=>match X.opd x with
  | .a (.c (.nl _))=>k .un X
  | .a (.c (.rv r lo n))=>match lk X.roots r with
   | some (_,.tr T xs)=>match Nat.beq sz T.n&&(R4 zero (zc T)&&noL T) with
    | true=>chk (nEq (lo+n) xs.length) (k .un (X.setR r (.tr T (Al (A9 lo xs) (Fu n (Vf T))))))
    | false=>none
   | _=>none
  | _=>none
 | _=>none
def Jt:XC->Bool
 | .lf _=>true
 | .i _ _=>true
 | .y _=>true
 | .b _=>true
 | .s _=>true
 | _=>false
def Z8 (X:XSt) (j:W):Bool:=match j with
 | .store _ x v=>match X.opd x,Hr (X.opd v) with
  | .a (.c (.pe _ _ _ _ _ _ _)),some ys=>ys.all Jt
  | _,_=>true
 | _=>true
def Ye {β:Type}(X:XSt) (S:St) (j:W) (k:XV->XSt->Option β) (out:β):Prop :=
 ∃xv X',k xv X'=some out/\XOk X'/\Ext X X'/\okV X'.roots X'.next X'.stamp xv/\X'.env=X.env /\
  ∃v ks roots,WkV v (cV X'.roots xv)/\SimX X' ⟨B9 ks S.env,roots,X'.next,S.fix⟩/\(Z8 X j=true->ks=[]/\∀r s x,lk X'.roots r=some (s,x)->s<X.stamp->get roots r=get S.roots r)/\∀K:KW,K v ks roots X'.next->wr S K j
section
variable {β:Type} {X:XSt} {S:St} {out:β}
theorem Yij {a b:C}(h:eqC a b=true):a=b:=by
 unfold eqC at h;split at h
 ·simp only[Kd,decide_eq_true_eq]at h;obtain⟨rfl,rfl⟩:=h;rfl
 ·simp only[beq_iff_eq]at h;rw[h]
 ·rename_i a b;simp only[Kd,Ksd]at h;obtain⟨⟨a⟩⟩:=a;obtain⟨⟨b⟩⟩:=b;simp only at h;rw[h.1,h.2]
 ·rw[Kr h]
 ·simp at h
theorem Zlf:∀{a b:List C},R4 a b=true->a=b
 | [],[],_=>rfl
 | a::as,b::bs,h=>by
  simp only[R4,Kd]at h;rw[Yij h.1,Zlf h.2]
 | [],_::_,h=>by simp [R4]at h
 | _::_,[],h=>by simp [R4]at h
theorem Zqn:∀t:Ty,(zc t).map Q6=Af t (Zbh t)
 | .I _=>rfl
 | .Y=>rfl
 | .B=>rfl
 | .S=>rfl
 | .L t=>rfl
 | .H t=>rfl
 | .P a b=>by simp only[zc,Kaa,Zqn a,Zqn b,Af,Zbh]
theorem Zqo:∀t:Ty,(zc t).all S4=true
 | .I _=>rfl
 | .Y=>rfl
 | .B=>rfl
 | .S=>rfl
 | .L t=>rfl
 | .H t=>rfl
 | .P a b=>by simp only[zc,List.all_append,Zqo a,Zqo b,Bool.and_self]
theorem Zom {X':XSt}{r s:Nat}{t:Ty}{xs:List t.den}(h:lk X'.roots r=some (s,.tr t xs)){n:Nat}(hn:n=xs.length):WkV (.a (.c (.rf r [] t.n 0 n))) (cV X'.roots (.a (.c (.rw r)))):=by
 subst hn;simp only[cV,cA,cC,h];exact WkC.refl _
theorem Qo (X:XSt) (x:XR):lk (X.newR x).roots X.next=some (X.stamp,x):=by simp only[XSt.newR];rw[Bf,if_pos rfl]
theorem Znz {X:XSt}{cs:List (Nat×XC)}{r:Nat}(h:r=X.next):WkV (.a (.c (.pb r 0))) (cV (X.newR (.bx cs)).roots (.a (.c (.pb X.next 0)))):=by
 subst h;simp only[cV,cA,cC,Qo];exact WkC.refl _
theorem Zup (hX:XOk X) (hS:SimX X S){X1:XSt}{roots:List (Nat×Root)}(h1:XOk X1) (hE:Ext X X1) (h2:SimX X1 ⟨S.env,roots,S.next,S.fix⟩) (he:X1.env=X.env) (hn1:X1.next=X.next) (hsm:∀r s x,lk X1.roots r=some (s,x)->s<X.stamp->get roots r=get S.roots r){t:Ty}{xs:List t.den}{k:XV->XSt->Option β}{j:W}(h:k (.a (.c (.rw X1.next))) (X1.newR (.tr t xs))=some out)
  {n:Nat} (hn:n=xs.length) (hw:∀K:KW,K (.a (.c (.rf S.next [] t.n 0 n))) [] ((S.next,.tr t.n (xs.map (Af t)))::roots) (S.next+1)->wr S K j):Ye X S j k out:=by
 obtain⟨f1,f2,f3⟩:=Qp (x:=.tr t xs) (y:=.tr t.n (xs.map (Af t))) h1 h2 (fun cs h=>by simp at h) ⟨_,rfl,rfl,rfl⟩;have hnx:S.next=X.next:=hS.next;refine⟨_,_,h,f1,hE.trans f2, ?_,he,.a (.c (.rf S.next [] t.n 0 n)),[],(S.next,.tr t.n (xs.map (Af t)))::roots, ?_, ?_, ?_, ?_⟩
 ·show X1.next<X1.next+1;exact Ksa _
 ·rw[hnx,<-hn1];exact Zom (s:=X1.stamp) (Qo _ _) hn
 ·rw[Oc,hnx];have:(X1.newR (.tr t xs)).next=X1.next+1:=rfl;rw[this,<-hn1];exact f3
 ·intro _;refine⟨rfl,fun r s x hl hs=>?_⟩;simp only[XSt.newR]at hl;rw[Bf]at hl;split at hl
  ·simp only[Ka,Kb]at hl;have:=hE.stamp;omega
  ·rename_i hne;simp only at hne;simp only[get];rw[if_neg (by rw[hnx,<-hn1];exact hne)];exact hsm r s x hl hs
 ·intro K hK;have:(X1.newR (.tr t xs)).next=S.next+1:=by show X1.next+1=_;rw[hn1,hnx]
  rw[this]at hK;exact hw K hK
theorem Sd (hX:XOk X) (hS:SimX X S){ids:List Nat}(hi:∀r∈ids,r<X.next){t:Ty}{xs:List t.den}{roots:List (Nat×Root)}(hr:∀r,r ∉ ids->get roots r=get S.roots r){k:XV->XSt->Option β}{j:W}(h:k (.a (.c (.rw X.next))) ((X.delRs ids).newR (.tr t xs))=some out)
  {n:Nat} (hn:n=xs.length) (hw:∀K:KW,K (.a (.c (.rf S.next [] t.n 0 n))) [] ((S.next,.tr t.n (xs.map (Af t)))::roots) (S.next+1)->wr S K j):Ye X S j k out:=by
 obtain⟨a,b,c⟩:=Yy ids hX hS hi;obtain⟨e1,e2,e3,e4⟩:=Yx ids X;have c':SimX (X.delRs ids) ⟨S.env,roots,S.next,S.fix⟩:=by
  refine Wi (R:=S.roots) c ?_;intro r s x hl hx;by_cases hm:r∈ids
  ·obtain⟨s',hg⟩:=(Jn ids X r).1 hm;rw[hl]at hg;simp only[Ka,Kb]at hg;exact (hx hg.2).elim
  ·exact hr r hm
 obtain⟨f1,f2,f3⟩:=Qp (x:=.tr t xs) (y:=.tr t.n (xs.map (Af t))) a c' (fun cs h=>by simp at h) ⟨_,rfl,rfl,rfl⟩;have hnx:S.next=X.next:=hS.next;refine⟨_,_,h,f1,b.trans f2, ?_,e1,.a (.c (.rf S.next [] t.n 0 n)),[],(S.next,.tr t.n (xs.map (Af t)))::roots, ?_, ?_, ?_, ?_⟩
 ·show X.next<(X.delRs ids).next+1;rw[e2];exact Ksa _
 ·rw[hnx];refine Zom (s:=(X.delRs ids).stamp) ?_ hn;rw[<-e2];exact Qo _ _
 ·rw[Oc,hnx];have:((X.delRs ids).newR (.tr t xs)).next=(X.delRs ids).next+1:=rfl;rw[this,<-e2];exact f3
 ·intro _;refine⟨rfl,fun r s x hl hs=>?_⟩;simp only[XSt.newR]at hl;rw[Bf]at hl;split at hl
  ·simp only[Ka,Kb]at hl;omega
  ·rename_i hne;simp only at hne;simp only[get];rw[if_neg (by rw[hnx,<-e2];exact hne)];by_cases hm:r∈ids
   ·have key:∀(l:List Nat) (Y:XSt),r∈l->∀s x,lk (Y.delRs l).roots r=some (s,x)->Y.stamp<=s:=by
     intro l
     induction l with
     | nil=>intro Y h;simp at h
     | cons q l ih =>
      intro Y h s x hl;by_cases hq:r∈l
      ·have:=ih (Y.setR q .gone) hq s x hl;have e:(Y.setR q .gone).stamp=Y.stamp+1:=rfl;omega
      ·have hq':=(Kh.1 h).resolve_right hq;subst hq';have h2:lk ((Y.setR r .gone).delRs l).roots r=some (s,x):=hl;rw[(Jn l (Y.setR r .gone) r).2 hq]at h2;simp only[XSt.setR]at h2;rw[Bf,if_pos rfl]at h2;simp only[Ka,Kb]at h2;omega
    have:=key ids X hm s x hl;omega
   ·exact hr r hm
 ·intro K hK;have:((X.delRs ids).newR (.tr t xs)).next=S.next+1:=by show (X.delRs ids).next+1=_;rw[e2,hnx]
  rw[this]at hK;exact hw K hK
theorem Zjw (hX:XOk X) (hS:SimX X S){cs:List XC}{ys:List C}(hy:Ab WkC ys (cs.map (cC X.roots))) (ho:∀c∈cs,okC X.roots X.next X.stamp c){k:XV->XSt->Option β}{j:W}{xv:XV}{v:V}(hv:WkV v (cV (X.newR (.bx (cs.map fun c=>(X.stamp,c)))).roots xv)) (hxo:okV (X.newR (.bx (cs.map fun c=>(X.stamp,c)))).roots (X.next+1) (X.stamp+1) xv) (h:k xv (X.newR (.bx (cs.map fun c=>(X.stamp,c))))=some out)
  (hw:∀K:KW,K v [] ((S.next,.bx ys)::S.roots) (S.next+1)->wr S K j):Ye X S j k out:=by
 obtain⟨f1,f2,f3⟩:=Qp (x:=.bx (cs.map fun c=>(X.stamp,c))) (y:=.bx ys) (E:=S.env) (R:=S.roots) (n:=S.next) (f:=S.fix) hX hS (fun cs' h e he=>by
  simp only[XR.bx.injEq]at h;subst h;obtain⟨c,hc,rfl⟩:=Kca.1 he;exact⟨rfl,ho c hc⟩) ⟨_,rfl,by simp only[WkR,Krb];exact hy⟩
 have hnx:S.next=X.next:=hS.next;refine⟨xv,_,h,f1,f2,hxo,rfl,v,[],(S.next,.bx ys)::S.roots,hv, ?_,fun _=>⟨rfl,fun r s x hl hs=>?_⟩,fun K hK=>hw K ?_⟩
 ·rw[Oc,hnx];exact f3
 ·simp only[XSt.newR]at hl;rw[Bf]at hl;split at hl
  ·simp only[Ka,Kb]at hl;omega
  ·rename_i hne;simp only[get];rw[if_neg (by rw[hnx];exact hne)]
 ·rw[hnx];rw[hnx]at hK;exact hK
end
end Go.Vs
namespace Go.Vs
variable [Glb]
section
variable {β:Type} {X:XSt} {S:St} {out:β}
def Uj (r:Nat) (ks:List (Nat×Ag)):Prop:=∀k∈ks,k.1=r/\k.2≠[]
theorem Ypj (ks ks':List (Nat×Ag)) (x:C):Ba (ks++ks') x=Ba ks' (Ba ks x):=by
 induction ks generalizing x with
 | nil=>rfl
 | cons k ks ih=>exact ih _
theorem Zmt {r:Nat}{x:C}(hx:∀q p s lo n,x=.rf q p s lo n->q≠r\/p=[]) (hx2:∀q p i c,x=.pe q p i c->q≠r\/p=[]):∀{ks:List (Nat×Ag)},Uj r ks->Ba ks x=x
 | [],_=>rfl
 | k::ks,h=>by
  obtain⟨h1,h2⟩:=h k Ks;have e:Er k.1 k.2 x=x:=by
   cases x with
   | rf q p s lo n =>
    simp only[Er];rw[if_neg];rintro ⟨a,b⟩;rcases hx q p s lo n rfl with h|h
    ·exact h (a.trans h1)
    ·subst h;exact h2 (by simpa using b)
   | pe q p i c =>
    simp only[Er];rw[if_neg];rintro ⟨a,b⟩;rcases hx2 q p i c rfl with h|h
    ·exact h (a.trans h1)
    ·subst h;exact h2 (by simpa using b)
   | _=>rfl
  show Ba ks (Er k.1 k.2 x)=x;rw[e];exact Zmt hx hx2 fun k hk=>h k (Ko _ hk)
theorem Zog (k1 k2:C->C) (x:Root):Root.map k2 (Root.map k1 x)=Root.map (fun c=>k2 (k1 c)) x:=by
 cases x<;>simp [Root.map]
theorem Zpn (hS : SimX X S) {r i sz : Nat} (fx : Nat) : ∀ (ys : List XC) (ds : List D) (ids : List Nat) (roots : List (Nat × Root)) (es : List (List D)) (e : List D) (c : Nat) (ks : List (Nat × Ag)),
    Ab (CD X.roots) ys ds → D8 X.roots ys = some ids → ids.Nodup → r ∉ ids → ((ids = [] ∧ ∀ y ∈ ys, ∃ v, cC X.roots y = .lf v) ∨ fx ≤ r) → get roots r = some (.tr sz es) → es[i]? = some e → c + ys.length ≤ e.length → Uj r ks →
    (∀ q ∈ ids, get roots q = (get S.roots q).map (Root.map (Ba ks))) →
    ∃ roots' m, Hh fx r [] i (ys.map (cC X.roots)) roots c ks = some (roots', ks ++ m) ∧ Uj r m ∧ get roots' r = some (.tr sz (es.set i (e.take c ++ (ds ++ e.drop (c + ds.length))))) ∧ (∀ q, q ≠ r → q ∉ ids → get roots' q = (get roots q).map (Root.map (Ba m))) ∧ ((∀ y ∈ ys, ∃ v, cC X.roots y = .lf v) → m = [])
  | [], [], ids, roots, es, e, c, ks, _, hi, _, _, _, hg, he, hl, hk, _ => by
    refine ⟨roots, [], by simp [Hh], (fun k hk => by simp at hk), ?_, (fun q _ _ => by rw [Lq]), fun _ => rfl⟩;rw [hg];simp only [Kj, Ki, Kw, Ksc];rw [show es.set i e = es from by
      apply Kbd;intro j;rw [Kgb];split
      · rename_i h; subst h
        split
        · exact he.symm
        · rename_i h; rw [Kuc (by omega)]
      · rfl]
  | y :: ys, d :: ds, ids, roots, es, e, c, ks, h, hi, hn, hrn, hfx, hg, he, hl, hk, hids => by
    simp only [Ke] at hl;have hyk : Ba ks (cC X.roots y) = cC X.roots y := by
      have : ∃ o, Dm X.roots y = some o := by
        simp only [D8] at hi;split at hi <;> first | exact ⟨_, by assumption⟩ | simp at hi
      obtain ⟨o, ho⟩ := this;refine Zmt ?_ ?_ hk
      · intro q p s lo n hq
        right;cases y <;> simp only [Dm, reduceCtorEq] at ho <;> simp only [cC] at hq <;> (try simp at hq)
        · split at hq <;> simp at hq <;> first | exact hq.2.1 | exact hq.2.1.symm
        · split at hq <;> simp at hq <;> first | exact hq.2.1 | exact hq.2.1.symm
      · intro q p i' c' hq
        cases y <;> simp only [Dm, reduceCtorEq] at ho <;> simp only [cC] at hq <;> (try simp at hq)
        · split at hq <;> simp at hq
        · split at hq <;> simp at hq
    have hlt : i < es.length := (Kja.1 he).1;have hset : ∀ d : D, Db es [] i c d = es.set i (e.set c d) := fun d => by simp [Db, Dw, Fd, he]
    have hget : ∀ d : D, (es.set i (e.set c d))[i]? = some (e.set c d) := fun d => Kzc hlt;have hfin : ∀ (d : D) (ds : List D), (es.set i (e.set c d)).set i ((e.set c d).take (c + 1) ++ (ds ++ (e.set c d).drop (c + 1 + ds.length))) = es.set i (e.take c ++ (d :: ds ++ e.drop (c + (d :: ds).length))) := by
      intro d ds;rw [Kcd];congr 1;have hc : c < e.length := by omega
      rw [Kte, Kzc (by simpa using hc), Kie (Kf c)];simp only [Kpf, Kxa, Kl, Kj, Ke];rw [Kqf (by omega), show c + 1 + ds.length = c + (ds.length + 1) by omega]
    cases hyc : cC X.roots y with
    | lf u =>
      have hd : d = .lf u := by
        rcases h.1 with ⟨v, h1, rfl⟩ | ⟨n, rfl, _⟩ | ⟨t, ws, r', p, lo, l, h1, _⟩
        · rw [hyc] at h1; simp only [C.lf.injEq] at h1; rw [h1]
        · simp [cC] at hyc
        · rw [hyc] at h1; simp at h1
      subst hd;have hids0 : D8 X.roots ys = some ids := by
        simp only [D8] at hi;split at hi
        · rename_i q l h1 h2
          exfalso;cases y <;> simp only [Dm, reduceCtorEq, Ka] at h1 <;> simp only [cC] at hyc
          · split at hyc <;> simp at hyc
          · split at hyc <;> simp at hyc
        · rename_i l h1 h2; rw [h2]; exact hi
        · simp at hi
      obtain ⟨roots', m, g1, g2, g3, g4, g5⟩ := Zpn hS fx ys ds ids (put roots r (.tr sz (es.set i (e.set c (.lf u))))) _ _ (c + 1) ks h.2 hids0 hn hrn (hfx.imp (fun h => ⟨h.1, fun y hy => h.2 y (Ko _ hy)⟩) id) (by rw [A0, if_pos rfl]) (hget _) (by simp; omega) hk
        (fun q hq => by rw [A0, if_neg (fun e => hrn (by rw [e]; exact hq))]; exact hids q hq)
      refine ⟨roots', m, ?_, g2, by rw [g3, hfin], fun q hq hqi => ?_, fun hall => g5 fun y hy => hall y (Ko _ hy)⟩
      · simp only [Kc, Hh]
        rw [hyk, hyc];simp only [hg, hset];exact g1
      · rw [g4 q hq hqi, A0, if_neg (fun e => hq e.symm)]
    | _ =>
      have hnl : ∀ u, cC X.roots y ≠ .lf u := fun u h => by rw [hyc] at h; simp at h
      have hfr : fx ≤ r := by
        rcases hfx with ⟨_, h2⟩ | h2
        · obtain ⟨v, hv⟩ := h2 y Ks
          exact (hnl v hv).elim
        · exact h2
      have hh : N2 sz es [] i (c + ys.length) = true := by
        simp only [N2, Am, Kra, he, decide_eq_true_eq]; omega
      -- the cell is taken
      have main : ∀ (o : Option Nat) (ids' : List Nat), Dm X.roots y = some o → D8 X.roots ys = some ids' → ids = Et o ++ ids' →
          ∃ roots' m, Hh fx r [] i ((y :: ys).map (cC X.roots)) roots c ks = some (roots', ks ++ m) ∧ Uj r m ∧ get roots' r = some (.tr sz (es.set i (e.take c ++ (d :: ds ++ e.drop (c + (d :: ds).length))))) ∧ (∀ q, q ≠ r → q ∉ ids → get roots' q = (get roots q).map (Root.map (Ba m))) ∧ ((∀ z ∈ y :: ys, ∃ v, cC X.roots z = .lf v) → m = []) := by
        intro o ids' ho hi' hids';subst hids';have hn' : ids'.Nodup := (Kgd.1 hn).2.1;have hor : o ≠ some r := fun e => hrn (by subst e; simp [Et]);have ht : C9 roots (cC X.roots y) = some (d, D2 roots o) := by
          -- trees are not changed by what is killed
          cases o with
          | none => exact V3 hS h.1 ho (fun q hq => by simp at hq)
          | some q =>
            have hq := hids q (by simp [Et]);have : ∃ t xs s, lk X.roots q = some (s, .tr t xs) := by
              cases y <;> simp only [Dm, reduceCtorEq, Ka] at ho
              · split at ho
                · rename_i hl; simp only [Ka] at ho; subst ho; exact ⟨_, _, _, hl⟩
                · simp at ho
              · split at ho
                · rename_i hl
                  split at ho
                  · simp only [Ka] at ho; subst ho; exact ⟨_, _, _, hl⟩
                  · simp at ho
                · simp at ho
            obtain ⟨t, xs, s, hl⟩ := this;obtain ⟨z, z1, z2⟩ := hS.roots q s _ hl _ rfl;refine V3 hS h.1 ho (fun q' hq' => ?_);simp only [Ka] at hq';subst hq';rw [hq, z1];cases z with
            | tr _ _ => rfl
            | _ => exact z2.elim
        have hgd : ∀ q, o ≠ some q → get (D2 roots o) q = get roots q := by
          intro q hq;cases o with
          | none => rfl
          | some z => simp only [D2]; rw [G5, if_neg (fun e => hq (by rw [e]))]
        obtain ⟨roots', m, g1, g2, g3, g4, g5⟩ := Zpn hS fx ys ds ids' (put (Sm r ([] ++ [(i, c)]) (D2 roots o)) r (.tr sz (es.set i (e.set c d)))) _ _ (c + 1) (ks ++ [(r, [] ++ [(i, c)])]) h.2 hi' hn' (fun hm => hrn (Khc _ hm)) (.inr hfr) (by rw [A0, if_pos rfl]) (hget d) (by simp; omega)
          (by intro k hk'; rcases Kia.1 hk' with hk' | hk'
              · exact hk k hk'
              · simp only [Kta] at hk'; subst hk'; exact ⟨rfl, by simp⟩)
          (fun q hq => by
            have hqr : r ≠ q := fun e => hrn (by rw [e]; exact Khc _ hq);have hqo : o ≠ some q := fun e => by
              subst e;simp only [Et, Kl, Kj, Kwa] at hn;exact hn.1 hq
            rw [A0, if_neg hqr, Vc, hgd q hqo, hids q (Khc _ hq)];cases get S.roots q with
            | none => rfl
            | some z =>
              simp only [Kna, Zog];congr 2;funext x;rw [Ypj]; rfl)
        refine ⟨roots', [(r, [] ++ [(i, c)])] ++ m, ?_, ?_, by rw [g3, hfin], fun q hq hqi => ?_, fun hall => by
            obtain ⟨v, hv⟩ := hall y Ks;exact (hnl v hv).elim⟩
        · simp only [Kc, Hh]
          rw [hyk];have hr1 : get (D2 roots o) r = some (.tr sz es) := by rw [hgd r hor, hg]
          split
          · rename_i u hu; exact (hnl u hu).elim
          · simp only [ht, hr1, Kt, hfr, hh, and_self, if_true, hset]
            rw [g1, Kxa]
        · intro k hk'
          rcases Kia.1 hk' with hk' | hk'
          · simp only [Kta] at hk'; subst hk'; exact ⟨rfl, by simp⟩
          · exact g2 k hk'
        · rw [Kia, not_or] at hqi
          have hqo : o ≠ some q := fun e => hqi.1 (by subst e; simp [Et]);rw [g4 q hq hqi.2, A0, if_neg (fun e => hq e.symm), Vc, hgd q hqo];cases get roots q with
          | none => rfl
          | some z =>
            simp only [Kna, Zog];congr 2
      simp only [D8] at hi;split at hi
      · rename_i q l h1 h2
        simp only [Ka] at hi; subst hi;exact main (some q) l h1 h2 rfl
      · rename_i l h1 h2
        simp only [Ka] at hi; subst hi;exact main none l h1 h2 rfl
      · simp at hi
  | [], _ :: _, _, _, _, _, _, _, h, _, _, _, _, _, _, _, _, _ => h.elim
  | _ :: _, [], _, _, _, _, _, _, h, _, _, _, _, _, _, _, _, _ => h.elim
def X5 (r i:Nat) (ks:List (Nat×Ag)):Prop:=∀k∈ks,∃c,k=(r,[(i,c)])
theorem X5.in_ {r i:Nat}{ks:List (Nat×Ag)}(h:X5 r i ks):Uj r ks:=fun k hk=>by
 obtain⟨c,rfl⟩:=h k hk;exact⟨rfl,by simp⟩
theorem Zvz {r i j c s lo n:Nat}(hij:i≠j):∀{ks:List (Nat×Ag)},X5 r i ks->Ba ks (.rf r [(j,c)] s lo n)=.rf r [(j,c)] s lo n
 | [],_=>rfl
 | k::ks,h=>by
  obtain⟨c',e⟩:=h k Ks;subst e;have:Er r [(i,c')] (.rf r [(j,c)] s lo n)=.rf r [(j,c)] s lo n:=by
   simp only[Er];rw[if_neg];rintro ⟨_,h⟩;rw[Kdf]at h;exact hij (by simpa using congrArg Prod.fst h.1)
  show Ba ks (Er r [(i,c')] _)=_;rw[this];exact Zvz hij fun k hk=>h k (Ko _ hk)
theorem Zz4 {α:Type}{l:List α}{i:Nat}{x:α}(h:l[i]? = some x):l.set i x=l:=by
 apply Kbd;intro j;rw[Kgb];split
 ·rename_i e;subst e;split
  ·exact h.symm
  ·rename_i h';rw[Kuc (by omega)]
 ·rfl
theorem Ie.set {r j:Nat}{ej:List D}{c0:Nat}{z:D}:∀{c:Nat}{ys:List C}{ds:List D},c0<c->Ie r j ej c ys ds->Ie r j (ej.set c0 z) c ys ds
 | _,[],[],_,_=>trivial
 | c,_::_,_::_,hc,h=>by
  refine⟨?_,Ie.set (by omega) h.2⟩;rcases h.1 with h|⟨s,n,l,h1,h2,h3⟩
  ·exact .inl h
  ·exact .inr ⟨s,n,l,h1,by rw[Kkd (by omega)];exact h2,h3⟩
 | _,[],_::_,_,h=>h.elim
 | _,_::_,[],_,h=>h.elim
theorem Zpl {r i j sz : Nat} (hij : i ≠ j) {fx : Nat} (hfx : fx ≤ r) : ∀ (ys : List C) (ds : List D) (c : Nat) (roots : List (Nat × Root)) (es : List (List D)) (ei ej : List D) (ks : List (Nat × Ag)),
    Ie r j ej c ys ds → get roots r = some (.tr sz es) → es[i]? = some ei → es[j]? = some ej → c + ys.length ≤ ei.length → c + ys.length ≤ ej.length → X5 r i ks →
    ∃ roots' m, Hh fx r [] i ys roots c ks = some (roots', ks ++ m) ∧ X5 r i m ∧ get roots' r = some (.tr sz ((es.set i (ei.take c ++ (ds ++ ei.drop (c + ds.length)))).set j (ej.take c ++ mvd ys (ej.drop c)))) ∧ ∀ q, q ≠ r → get roots' q = (get roots q).map (Root.map (Ba m))
  | [], [], c, roots, es, ei, ej, ks, _, hg, hi, hj, _, _, _ => by
    refine ⟨roots, [], by simp [Hh], (fun k hk => by simp at hk), ?_, (fun q _ => by rw [Lq])⟩;rw [hg];have e1 : mvd [] (ej.drop c) = ej.drop c := by cases ej.drop c <;> rfl
    simp only [Kj, Ki, Kw, Ksc, e1];rw [Zz4 hi, Zz4 hj]
  | y :: ys, d :: ds, c, roots, es, ei, ej, ks, h, hg, hi, hj, hl, hlj, hk => by
    simp only [Ke] at hl hlj;have hilt : i < es.length := (Kja.1 hi).1;have hjlt : j < es.length := (Kja.1 hj).1;have hcj : c < ej.length := by omega
    have hci : c < ei.length := by omega
    have hA : ∀ (z : D) (ds : List D), (ei.set c z).take (c + 1) ++ (ds ++ (ei.set c z).drop (c + 1 + ds.length)) = ei.take c ++ (z :: ds ++ ei.drop (c + (z :: ds).length)) := by
      intro z ds;rw [Kte, Kzc hci, Kie (Kf c)];simp only [Kpf, Kxa, Kl, Kj, Ke];rw [Kqf (by omega), show c + 1 + ds.length = c + (ds.length + 1) by omega]
    obtain ⟨h1, h2⟩ := h;rcases h1 with ⟨u, rfl, rfl⟩ | ⟨s, n, l, rfl, hc, hn, rfl⟩
    · have hset : Db es [] i c (.lf u) = es.set i (ei.set c (.lf u)) := by simp [Db, Dw, Fd, hi]
      obtain ⟨roots', m, g1, g2, g3, g4⟩ := Zpl hij hfx ys ds (c + 1) (put roots r (.tr sz (es.set i (ei.set c (.lf u))))) _ (ei.set c (.lf u)) ej ks h2 (by rw [A0, if_pos rfl]) (Kzc hilt) (by rw [Kkd hij]; exact hj) (by simp; omega) (by omega) hk;refine ⟨roots', m, ?_, g2, ?_, fun q hq => ?_⟩
      · simp only [Hh]
        rw [Zvy];simp only [hg, hset];exact g1
      · rw [g3, hA, Kcd]
        congr 3;have e : ej.drop c = ej[c] :: ej.drop (c + 1) := Kcc hcj;rw [e];simp only [mvd];rw [Kte, Ku hcj];simp only [Kpf, Kxa, Kl, Kj]
      · rw [g4 q hq, A0, if_neg (fun e => hq e.symm)]
    · have hcut : Rz es [(j, c)] = es.set j (ej.set c .hole) := by
        rw [show Rz es [(j, c)] = Db es [] j c .hole from Zkh es [] j c];simp [Db, Dw, Fd, hj]
      have hnode : Am sz es [(j, c)] = some (s, l) := by simp [Am, hj, hc]
      have hset : Db (es.set j (ej.set c .hole)) [] i c (.sl s (l.take n)) = (es.set j (ej.set c .hole)).set i (ei.set c (.sl s (l.take n))) := by
        simp [Db, Dw, Fd, Kkd (Ne.symm hij), hi]
      have hh : N2 sz (es.set j (ej.set c .hole)) [] i (c + ys.length) = true := by
        simp only [N2, Am, Kra, Kkd (Ne.symm hij), hi, decide_eq_true_eq]; omega
      obtain ⟨roots', m, g1, g2, g3, g4⟩ := Zpl hij hfx ys ds (c + 1) (put (Sm r ([] ++ [(i, c)]) (put roots r (.tr sz (es.set j (ej.set c .hole))))) r (.tr sz ((es.set j (ej.set c .hole)).set i (ei.set c (.sl s (l.take n)))))) _ (ei.set c (.sl s (l.take n))) (ej.set c .hole) (ks ++ [(r, [] ++ [(i, c)])])
        (Ie.set (Ksa c) h2) (by rw [A0, if_pos rfl]) (Kzc (by simpa using hilt)) (by rw [Kkd hij, Kzc hjlt]) (by simp; omega) (by simp; omega)
        (by intro k hk'; rcases Kia.1 hk' with hk' | hk'
            · exact hk k hk'
            · simp only [Kta] at hk'; subst hk'; exact ⟨c, rfl⟩)
      refine ⟨roots', [(r, [] ++ [(i, c)])] ++ m, ?_, ?_, ?_, fun q hq => ?_⟩
      · simp only [Hh]
        rw [Zvz hij hk];simp only [C9, hg, hnode];rw [if_pos ⟨trivial, hn⟩];simp only [Dp, hg, hcut, A0, if_true, hfx, hh, and_self, hset];rw [g1, Kxa]
      · intro k hk'
        rcases Kia.1 hk' with hk' | hk'
        · simp only [Kta] at hk'; subst hk'; exact ⟨c, rfl⟩
        · exact g2 k hk'
      · rw [g3, hA, Kcd]
        congr 2;have ec : ∀ x A : List D, (es.set j x).set i A = (es.set i A).set j x := fun x A => List.set_comm _ _ (Ne.symm hij);rw [ec, Kcd];congr 1;have e : ej.drop c = ej[c] :: ej.drop (c + 1) := Kcc hcj;rw [e];simp only [mvd];rw [Kte, Kzc hcj, Kie (Kf c), Kqf (by omega)];simp only [Kpf, Kxa, Kl, Kj]
      · rw [g4 q hq, A0, if_neg (fun e => hq e.symm), Vc, A0, if_neg (fun e => hq e.symm)]
        cases get roots q with
        | none => rfl
        | some z =>
          simp only [Kna, Zog];congr 2
  | [], _ :: _, _, _, _, _, _, _, h, _, _, _, _, _, _ => h.elim
  | _ :: _, [], _, _, _, _, _, _, h, _, _, _, _, _, _ => h.elim
end
end Go.Vs
