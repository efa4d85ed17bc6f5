import Derived.Laws.Strings2
import Derived.Laws.Concat
import Derived.Test.YtbbdcgglfmhhpaaGreatDoorVsW2
set_option linter.all false
namespace Go.Vs
variable [Glb]
def toI:XC->Option (IntKind×Int)
 | .i k z=>match k with
  | .u8=>none
  | k=>some (k,z)
 | .y b=>some (.u8,y2i b)
 | _=>none
def mkI (k:IntKind) (z:Int):XC:=match k with
 | .u8=>.y (u8 z)
 | k=>.i k z
def kEq (a b:IntKind):Bool:=decide (a=b)
def fits (lo n len:Nat):Bool:=decide (lo+n<=len)
def binC:BinOp->Int->Bool
 | .shl,b=>iLe 0 b
 | .shr,b=>iLe 0 b
 | .quo,b=>iNe b 0
 | .rem,b=>iNe b 0
 | _,_=>true
def binK:BinOp->Bool
 | .shl=>false
 | .shr=>false
 | _=>true
def binX:BinOp->IntKind->Int->Int->Option XC
 | .add,k,a,b=>some (mkI k (iAdd k a b))
 | .sub,k,a,b=>some (mkI k (iSub k a b))
 | .mul,k,a,b=>some (mkI k (iMul k a b))
 | .quo,k,a,b=>some (mkI k (iQuo k a b))
 | .rem,k,a,b=>some (mkI k (iRem a b))
 | .and,k,a,b=>some (mkI k (iAnd k a b))
 | .or,k,a,b=>some (mkI k (iOr k a b))
 | .xor,k,a,b=>some (mkI k (iXor k a b))
 | .andNot,k,a,b=>some (mkI k (iAndNot k a b))
 | .shl,k,a,b=>some (mkI k (iShl k a b))
 | .shr,k,a,b=>some (mkI k (iShr k a b))
 | .eql,_,a,b=>some (.b (iEq a b))
 | .neq,_,a,b=>some (.b (iNe a b))
 | .lss,_,a,b=>some (.b (iLt a b))
 | .leq,_,a,b=>some (.b (iLe a b))
 | .gtr,_,a,b=>some (.b (iGt a b))
 | .geq,_,a,b=>some (.b (iGe a b))
def sbinX:BinOp->List UInt8->List UInt8->Option XC
 | .eql,a,b=>some (.b (sEq a b))
 | .neq,a,b=>some (.b (bNot (sEq a b)))
 | .lss,a,b=>some (.b (sLt a b))
 | .leq,a,b=>some (.b (bOr (sLt a b) (sEq a b)))
 | .gtr,a,b=>some (.b (bNot (bOr (sLt a b) (sEq a b))))
 | .geq,a,b=>some (.b (bNot (sLt a b)))
 | _,_,_=>none
def isAdd:BinOp->Bool
 | .add=>true
 | _=>false
def small (a b:List UInt8):Bool:=decide (a.length+b.length<9223372036854775808)
def leafX {β:Type}(op:BinOp) (x y:XC) (k:XC->Option β):Option β:=match x,y with
 | .s a,.s b=>match isAdd op with
  | true=>chk (small a b) (k (.s (lApp a b)))
  | false=>match sbinX op a b with
   | some c=>k c
   | none=>none
 | x,y=>match toI x,toI y with
  | some (k1,a),some (k2,b)=>match kEq k1 k2||!binK op with
   | true=>chk (binC op b) (match binX op k1 a b with
    | some c=>k c
    | none=>none)
   | false=>none
  | _,_=>none
def cellsX (r v:Nat) (p:Path) (i:Nat):(t:Ty)->t.den->Nat->List XC
 | .I k,z,_=>[.i k z]
 | .Y,b,_=>[.y b]
 | .B,x,_=>[.b x]
 | .S,l,_=>[.s l]
 | .L t,xs,c=>[.rf r v (p++[(i,c)]) 0 t xs]
 | .P a b,x,c=>cellsX r v p i a x.1 c++cellsX r v p i b x.2 (c+a.n)
def winX {β:Type}(R:XRs) (c:XC) (k:(t:Ty)->List t.den->Option β):Option β:=match c with
 | .rw r=>match lk R r with
  | some (_,.tr t xs)=>k t xs
  | some (_,.im t xs)=>k t xs
  | _=>none
 | .rv r lo n=>match lk R r with
  | some (_,.tr t xs)=>chk (fits lo n xs.length) (k t (lTake n (lDrop lo xs)))
  | some (_,.im t xs)=>chk (fits lo n xs.length) (k t (lTake n (lDrop lo xs)))
  | _=>none
 | .rf r v p lo t ws=>match verOk R r v with
  | true=>k t ws
  | false=>none
 | _=>none
def pickX {β:Type}(t:Bool) (a b:XV) (k:XV->Option β):Option β:=match a,b with
 | .a (.c (.b x)),.a (.c (.b y))=>k (.a (.c (.b (sel2 t x y))))
 | .a (.c (.i k1 x)),.a (.c (.i k2 y))=>match kEq k1 k2 with
  | true=>k (.a (.c (.i k1 (sel2 t x y))))
  | false=>none
 | a,b=>cnd t (k a) (k b)
def cellsXV:XV->Option (List XC)
 | .a (.c x)=>some [x]
 | .a (.ag cs)=>some cs
 | _=>none
def fillX (X:XSt):List XC->List (Nat×Nat×Opd)->Option (List XC)
 | cs,[]=>some cs
 | cs,(off,sz,x)::rest=>match cellsXV (X.opd x) with
  | some ys=>match Nat.beq ys.length sz&&Nat.ble (off+sz) cs.length with
   | true=>fillX X (cs.take off++(ys++cs.drop (off+sz))) rest
   | false=>none
  | none=>none
def intOf (x:XV):Option Int:=match x with
 | .a (.c c)=>match toI c with
  | some (_,z)=>some z
  | none=>none
 | _=>none
def lenZ:List Int->Nat
 | []=>0
 | _::l=>Nat.succ (lenZ l)
def intsX:List XC->Option (List Int)
 | []=>some []
 | .i .i64 z::l=>match intsX l with
  | some m=>some (z::m)
  | none=>none
 | _::_=>none
def lenX {β:Type}(R:XRs) (c:XC) (k:Int->Option β):Option β:=match c with
 | .nl _=>k 0
 | .rw r=>match lk R r with
  | some (_,.tr t xs)=>k (lLen xs)
  | some (_,.im t xs)=>k (lLen xs)
  | _=>none
 | .rv r lo n=>match lk R r with
  | some (_,.tr t xs)=>k (Int.ofNat n)
  | some (_,.im t xs)=>k (Int.ofNat n)
  | _=>none
 | .rf r v p lo t ws=>match verOk R r v with
  | true=>k (lLen ws)
  | false=>none
 | _=>none
def st0:Option Int->Nat
 | none=>0
 | some l=>nOf l
def slcX {β:Type}(R:XRs) (z0:Nat) (c:XC) (l:Option Int) (h:Option Int) (k:XC->Option β):Option β:=match c with
 | .rw r=>match lk R r with
  | some (_,.tr t xs)=>match Nat.beq z0 t.n with
   | true=>chk (within (l.getD 0) (h.getD (lLen xs)) (lLen xs)) (k (.rv r (st0 l) (nOf (h.getD (lLen xs))-st0 l)))
   | false=>none
  | some (v,.im t xs)=>match Nat.beq z0 t.n with
   | true=>chk (within (l.getD 0) (h.getD (lLen xs)) (lLen xs)) (k (.rf r v [] (st0 l) t (lTake (nOf (h.getD (lLen xs))-st0 l) (lDrop (st0 l) xs))))
   | false=>none
  | _=>none
 | .rv r lo n=>match lk R r with
  | some (_,.tr t xs)=>match Nat.beq z0 t.n with
   | true=>chk (within (l.getD 0) (h.getD (Int.ofNat n)) (Int.ofNat n)) (k (.rv r (lo+st0 l) (nOf (h.getD (Int.ofNat n))-st0 l)))
   | false=>none
  | _=>none
 | .rf r v p lo t ws=>match verOk R r v&&Nat.beq z0 t.n with
  | true=>chk (within (l.getD 0) (h.getD (lLen ws)) (lLen ws)) (k (.rf r v p (lo+st0 l) t (lTake (nOf (h.getD (lLen ws))-st0 l) (lDrop (st0 l) ws))))
  | false=>none
 | _=>none
def iadX {β:Type}(R:XRs) (sz:Nat) (c:XC) (z:Int) (k:XC->Option β):Option β:=match c with
 | .rw r=>match lk R r with
  | some (v,.tr t xs)=>match Nat.beq t.n sz with
   | true=>bnd (idx xs z) fun e=>k (.pe r v [] (nOf z) 0 t e)
   | false=>none
  | some (v,.im t xs)=>match Nat.beq t.n sz with
   | true=>bnd (idx xs z) fun e=>k (.pe r v [] (nOf z) 0 t e)
   | false=>none
  | _=>none
 | .rv r lo n=>match lk R r with
  | some (v,.tr t xs)=>match Nat.beq t.n sz with
   | true=>chk (iLt z (Int.ofNat n)) (bnd (idx (lDrop lo xs) z) fun e=>k (.pe r v [] (lo+nOf z) 0 t e))
   | false=>none
  | _=>none
 | .rf r v p lo t ws=>match verOk R r v&&Nat.beq t.n sz with
  | true=>bnd (idx ws z) fun e=>k (.pe r v p (lo+nOf z) 0 t e)
  | false=>none
 | _=>none
def mbI (X:XSt):Option Opd->Option (Option Int)
 | none=>some none
 | some x=>match intOf (X.opd x) with
  | some z=>some (some z)
  | none=>none
def bigX (cs:List (Nat×XC)):Option (List Int):=match Nat.ble 16 cs.length with
 | true=>intsX (cs.map (·.2))
 | false=>none
def glX {β:Type}(l:List UInt8):Nat->Nat->(List XC->Option β)->Option β
 | _,0,k=>k []
 | o,m+1,k=>bnd (idx l (Int.ofNat o)) fun y=>glX l (o+1) m fun cs=>k (.y y::cs)
def asX:List XV->Option (List XA)
 | []=>some []
 | .a x::l=>match asX l with
  | some r=>some (x::r)
  | none=>none
 | _=>none
def rdX {β:Type}(X:XSt) (i:I) (k:XV->Option β):Option β:=match i with
 | .mv x=>k (X.opd x)
 | .pick c a b=>match X.opd c with
  | .a (.c (.b t))=>pickX t (X.opd a) (X.opd b) k
  | _=>none
 | .load n x=>match X.opd x with
  | .a (.c (.pe r v p i c t e))=>match verOk X.roots r v with
   | true=>match n with
    | none=>match (cellsX r v p i t e 0)[c]? with
     | some y=>k (.a (.c y))
     | none=>none
    | some m=>match Nat.ble (c+m) t.n with
     | true=>k (.a (.ag (((cellsX r v p i t e 0).drop c).take m)))
     | false=>none
   | false=>none
  | .a (.c (.pb r c))=>match lk X.roots r with
   | some (_,.bx cs)=>match n with
    | none=>match bigX cs with
     | some l=>bnd (idx l (Int.ofNat c)) fun e=>k (.a (.c (.i .i64 e)))
     | none=>match cs[c]? with
      | some y=>k (.a (.c y.2))
      | none=>none
    | some m=>match Nat.ble (c+m) cs.length with
     | true=>k (.a (.ag (((cs.drop c).take m).map (·.2))))
     | false=>none
   | _=>none
  | .a (.c (.lf (.pointer (some ⟨b,o,none⟩))))=>match glbL Glb.tab b with
   | some l=>match n with
    | none=>bnd (idx l (Int.ofNat o)) fun y=>k (.a (.c (.y y)))
    | some m=>glX l o m fun cs=>k (.a (.ag cs))
   | none=>none
  | _=>none
 | .nilc x=>match X.opd x with
  | .a (.c (.pe r v p i c t e))=>match verOk X.roots r v with
   | true=>k (.a (.c (.pe r v p i c t e)))
   | false=>none
  | .a (.c (.pb r c))=>match lk X.roots r with
   | some (_,.bx _)=>k (.a (.c (.pb r c)))
   | _=>none
  | _=>none
 | .bin op x y=>match X.opd x,X.opd y with
  | .a (.c u),.a (.c v)=>leafX op u v fun c=>k (.a (.c c))
  | _,_=>none
 | .beq neg x y=>match X.opd x,X.opd y with
  | .a (.c (.b u)),.a (.c (.b v))=>k (.a (.c (.b (match neg with|true=>bNe u v|false=>bEq u v))))
  | _,_=>none
 | .aeq neg n x y=>match X.opd x,X.opd y with
  | .a (.ag cs),.a (.ag ds)=>match intsX cs,intsX ds with
   | some us,some vs=>match Nat.beq (lenZ us) n&&Nat.beq (lenZ vs) n with
    | true=>k (.a (.c (.b (match neg with|true=>bNot (zEq us vs)|false=>zEq us vs))))
    | false=>none
   | _,_=>none
  | _,_=>none
 | .un op x=>match op,X.opd x with
  | .not,.a (.c (.b u))=>k (.a (.c (.b (bNot u))))
  | .neg,.a (.c (.i kd z))=>k (.a (.c (mkI kd (iNeg kd z))))
  | _,_=>none
 | .conv kd x=>match intOf (X.opd x) with
  | some z=>k (.a (.c (mkI kd (iConv kd z))))
  | none=>none
 | .b2s x=>match X.opd x with
  | .a (.c (.nl _))=>k (.a (.c (.s [])))
  | .a (.c c)=>winX X.roots c fun t ws=>match t,ws with
   | .Y,ws=>k (.a (.c (.s ws)))
   | _,_=>none
  | _=>none
 | .slc z0 x lo hi=>match X.opd x,mbI X lo,mbI X hi with
  | .a (.c c),some lo,some hi=>slcX X.roots z0 c lo hi fun c=>k (.a (.c c))
  | _,_,_=>none
 | .ssl x lo hi=>match X.opd x,mbI X lo,mbI X hi with
  | .a (.c (.s l)),some lo,some hi=>match lo.isSome||hi.isSome with
   | true=>chk (within (lo.getD 0) (hi.getD (lLen l)) (lLen l)) (k (.a (.c (.s (lTake (nOf (hi.getD (lLen l))-st0 lo) (lDrop (st0 lo) l))))))
   | false=>none
  | _,_,_=>none
 | .fld off n x=>match X.opd x with
  | .a (.ag cs)=>match n with
   | none=>match cs[off]? with
    | some y=>k (.a (.c y))
    | none=>none
   | some m=>match Nat.ble (off+m) cs.length with
    | true=>k (.a (.ag ((cs.drop off).take m)))
    | false=>none
  | _=>none
 | .fad off x=>match X.opd x with
  | .a (.c (.pe r v p i c t e))=>match verOk X.roots r v with
   | true=>k (.a (.c (.pe r v p i (c+off) t e)))
   | false=>none
  | .a (.c (.pb r c))=>match lk X.roots r with
   | some (_,.bx _)=>k (.a (.c (.pb r (c+off))))
   | _=>none
  | .a (.c (.lf (.pointer (some ⟨b,o,none⟩))))=>k (.a (.c (.lf (.pointer (some ⟨b,o+off,none⟩)))))
  | _=>none
 | .iad sz x i=>match X.opd x,intOf (X.opd i) with
  | .a (.c c),some z=>iadX X.roots sz c z fun c=>k (.a (.c c))
  | _,_=>none
 | .iaa len sz x i=>match X.opd x,intOf (X.opd i) with
  | .a (.c (.pb r c)),some z=>match lk X.roots r with
   | some (_,.bx _)=>chk (iLe 0 z) (chk (iLt z (Int.ofNat len)) (k (.a (.c (.pb r (c+nOf z*sz))))))
   | _=>none
  | .a (.c (.lf (.pointer (some ⟨b,o,none⟩)))),some z=>chk (iLe 0 z) (chk (iLt z (Int.ofNat len)) (k (.a (.c (.lf (.pointer (some ⟨b,o+nOf z*sz,none⟩)))))))
  | _,_=>none
 | .idx x i=>match X.opd x,intOf (X.opd i) with
  | .a (.c (.s l)),some z=>bnd (idx l z) fun b=>k (.a (.c (.y b)))
  | _,_=>none
 | .ixa len none sz x i=>match X.opd x,intOf (X.opd i) with
  | .a (.ag cs),some z=>match intsX cs,Nat.beq cs.length len&&Nat.beq sz 1 with
   | some l,true=>bnd (idx l z) fun e=>k (.a (.c (.i .i64 e)))
   | _,_=>none
  | _,_=>none
 | .ext i x=>match X.opd x with
  | .tp xs=>match xs[i]? with
   | some y=>k (.a y)
   | none=>none
  | _=>none
 | .len x=>match X.opd x with
  | .a (.c c)=>lenX X.roots c fun z=>k (.a (.c (.i .i64 z)))
  | _=>none
 | .sid x=>match X.opd x with
  | .a (.c (.s l))=>k (.a (.c (.s l)))
  | _=>none
 | .sln x=>match X.opd x with
  | .a (.c (.s l))=>k (.a (.c (.i .i64 (lLen l))))
  | _=>none
 | .build zero parts=>match zero.all inC8 with
  | true=>match fillX X (zero.map ofC) parts with
   | some cs=>k (.a (.ag cs))
   | none=>none
  | false=>none
 | .mkf f caps=>match asX (caps.map X.opd) with
  | some cs=>k (.fn f cs)
  | none=>none
 | _=>none
end Go.Vs
namespace Go.Vs
variable [Glb]
theorem toI_c {R:XRs}{c:XC}{k:IntKind}{z:Int}(h:toI c=some (k,z)):cC R c=.lf (.int k z):=by
 cases c with
 | i k' z'=>cases k'<;>simp only[toI,Option.some.injEq,Prod.mk.injEq,reduceCtorEq]at h<;>(obtain⟨rfl,rfl⟩:=h;rfl)
 | y b=>simp only[toI,Option.some.injEq,Prod.mk.injEq]at h;obtain⟨rfl,rfl⟩:=h;rfl
 | _=>simp [toI]at h
theorem mkI_ok {R:XRs}{nx st:Nat}{k:IntKind}{z:Int}:okC R nx st (mkI k z):=by cases k<;>trivial
theorem mkI_c {R:XRs}{k:IntKind}{z:Int}(h:k=.u8->0<=z/\z<256):cC R (mkI k z)=.lf (.int k z):=by
 cases k<;>try rfl
 have:=h rfl
 simp only[mkI,cC,u8]
 congr 2
 rw[UInt8.toNat_ofNat',Nat.mod_eq_of_lt (by omega)]
 omega
theorem wrap8 (z:Int):0<=IntKind.u8.wrap z/\IntKind.u8.wrap z<256:=by rw[IntKind.wrap_u8];omega
theorem mkW_c {R:XRs}{k:IntKind}{z:Int}:cC R (mkI k (k.wrap z))=.lf (.int k (k.wrap z)):=mkI_c fun e=>by subst e;exact wrap8 z
theorem toI_u8 {c:XC}{k:IntKind}{z:Int}(h:toI c=some (k,z)):k=.u8->0<=z/\z<256:=by
 intro e
 cases c with
 | i k' z'=>cases k'<;>simp only[toI,Option.some.injEq,Prod.mk.injEq,reduceCtorEq]at h<;>(obtain⟨rfl,rfl⟩:=h;cases e)
 | y b =>
  simp only[toI,Option.some.injEq,Prod.mk.injEq]at h
  rw[<-h.2]
  have:=b.toNat_lt
  simp only[y2i]
  omega
 | _=>simp [toI]at h
theorem node_sim {X:XSt}{S:St}(h:SimX X S){r:Nat}{p:Path}{n:Nat×List (List D)}(hn:nodeX X.roots r p=some n):nodeIn S.roots r p=some n:=by
 unfold nodeX at hn
 unfold nodeIn
 split at hn
 ·rename_i s t xs hl
  obtain⟨y,h1,h2⟩:=h.roots r s _ hl _ rfl
  cases y with
  | tr a b=>obtain⟨rfl,rfl⟩:=h2;rw[h1];exact hn
  | _=>exact h2.elim
 ·rename_i s t xs hl
  obtain⟨y,h1,h2⟩:=h.roots r s _ hl _ rfl
  cases y with
  | im a b=>obtain⟨rfl,rfl⟩:=h2;rw[h1];exact hn
  | _=>exact h2.elim
 ·simp at hn
theorem nodeX_step {R:XRs}{r:Nat}{p:Path}{n:Nat×List (List D)}(hn:nodeX R r p=some n) (i c:Nat) :
  nodeX R r (p++[(i,c)])=match (n.2[i]?).bind (·[c]?) with|some (.sl sz' es')=>some (sz',es')|_=>none:=by
 unfold nodeX at hn ⊢
 split at hn
 ·rename_i s t xs hl;exact nodeAt_step hn i c
 ·rename_i s t xs hl;exact nodeAt_step hn i c
 ·simp at hn
theorem box_sim {X:XSt}{S:St}(h:SimX X S){r s:Nat}{cs:List (Nat×XC)}(hl:lk X.roots r=some (s,.bx cs)):∃ys,get S.roots r=some (.bx ys)/\All2 WkC ys (cs.map fun e=>cC X.roots e.2):=by
 obtain⟨y,h1,h2⟩:=h.roots r s _ hl _ rfl
 cases y with
 | bx ys=>exact⟨ys,h1,h2⟩
 | _=>exact h2.elim
theorem toCs_append (r:Nat) (p:Path) (i:Nat):∀(xs ys:List D) (c:Nat),toCs r p i c (xs++ys)=toCs r p i c xs++toCs r p i (c+xs.length) ys
 | [],ys,c=>rfl
 | x::xs,ys,c=>by
  simp only[List.cons_append,toCs,toCs_append r p i xs ys (c+1),List.length_cons]
  rw[show c+1+xs.length=c+(xs.length+1) by omega]
theorem cellsX_c {R:XRs}{r v:Nat}(hv:verOk R r v=true) (p:Path) (i:Nat):∀(t:Ty) (x:t.den) (c:Nat),(cellsX r v p i t x c).map (cC R)=toCs r p i c (encT t x)
 | .I _,_,_=>rfl
 | .Y,_,_=>rfl
 | .B,_,_=>rfl
 | .S,_,_=>rfl
 | .L t,xs,c=>by simp [cellsX,encT,toCs,toC,cC,hv]
 | .P a b,x,c=>by
  simp only[cellsX,List.map_append,cellsX_c hv p i a,cellsX_c hv p i b,encT,toCs_append,encT_len]
theorem cellsX_len (r v:Nat) (p:Path) (i:Nat):∀(t:Ty) (x:t.den) (c:Nat),(cellsX r v p i t x c).length=t.n
 | .I _,_,_=>rfl
 | .Y,_,_=>rfl
 | .B,_,_=>rfl
 | .S,_,_=>rfl
 | .L t,xs,c=>rfl
 | .P a b,x,c=>by simp only[cellsX,List.length_append,cellsX_len r v p i a,cellsX_len r v p i b,Ty.n]
theorem cellsX_ok {R:XRs}{nx st r v:Nat}(hr:r<nx) (hv:v<st){p:Path}{i sz:Nat}{l:List (List D)}{e:List D}(hn:verOk R r v=true->nodeX R r p=some (sz,l)/\l[i]? = some e):∀(t:Ty) (x:t.den) (c:Nat),(∀(j:Nat) (d:D),(encT t x)[j]? = some d->e[c+j]? = some d)->∀y∈cellsX r v p i t x c,okC R nx st y
 | .I _,_,_,_,y,hy=>by simp only[cellsX,List.mem_singleton]at hy;subst hy;trivial
 | .Y,_,_,_,y,hy=>by simp only[cellsX,List.mem_singleton]at hy;subst hy;trivial
 | .B,_,_,_,y,hy=>by simp only[cellsX,List.mem_singleton]at hy;subst hy;trivial
 | .S,_,_,_,y,hy=>by simp only[cellsX,List.mem_singleton]at hy;subst hy;trivial
 | .L t,xs,c,he,y,hy=>by
  simp only[cellsX,List.mem_singleton]at hy;subst hy
  refine⟨hr,hv,fun hk=>?_⟩
  obtain⟨h1,h2⟩:=hn hk
  have h3:=nodeX_step h1 i c
  simp only[h2,Option.bind_some]at h3
  rw[show e[c]? = some (.sl t.n (xs.map (encT t))) from he 0 _ rfl]at h3
  exact⟨_,h3,by simp,by rw[List.drop_zero,List.take_of_length_le (by simp)]⟩
 | .P a b,x,c,he,y,hy=>by
  simp only[cellsX,List.mem_append]at hy
  rcases hy with hy|hy
  ·refine cellsX_ok hr hv hn a x.1 c (fun j d hd=>he j d ?_) y hy
   simp only[encT]
   rw[List.getElem?_append_left (List.getElem?_eq_some_iff.1 hd).1]
   exact hd
  ·refine cellsX_ok hr hv hn b x.2 _ (fun j d hd=>?_) y hy
   rw[show c+a.n+j=c+(a.n+j) by omega]
   refine he _ d ?_
   simp only[encT]
   rw[List.getElem?_append_right (by rw[encT_len];omega),encT_len,Nat.add_sub_cancel_left]
   exact hd
theorem winX_some {β:Type}{R:XRs}{nx st:Nat}{c:XC}{k:(t:Ty)->List t.den->Option β}{out:β}(hc:okC R nx st c) (h:winX R c k=some out) :
  ∃(t:Ty) (ws:List t.den) (r:Nat) (p:Path) (lo:Nat) (l:List (List D)),k t ws=some out/\r<nx/\cC R c=.rf r p t.n lo ws.length/\nodeX R r p=some (t.n,l)/\lo+ws.length<=l.length/\(l.drop lo).take ws.length=ws.map (encT t):=by
 unfold winX at h
 split at h
 ·rename_i r
  split at h
  ·rename_i s t xs hl
   exact⟨t,xs,r,[],0,_,h,hc,by simp [cC,hl],by simp only[nodeX,hl];rfl,by simp,by rw[List.drop_zero,List.take_of_length_le (by simp)]⟩
  ·rename_i s t xs hl
   exact⟨t,xs,r,[],0,_,h,hc,by simp [cC,hl],by simp only[nodeX,hl];rfl,by simp,by rw[List.drop_zero,List.take_of_length_le (by simp)]⟩
  ·simp at h
 ·rename_i r lo n
  split at h
  ·rename_i s t xs hl
   obtain⟨h1,h2⟩:=chk_some h
   simp only[fits,decide_eq_true_eq]at h1
   have hlen:(lTake n (lDrop lo xs)).length=n:=by simp [lTake,lDrop];omega
   refine⟨t,_,r,[],lo,_,h2,hc, ?_,by simp only[nodeX,hl];rfl,by rw[hlen];simpa using h1,by rw[hlen];simp [lTake,lDrop]⟩
   rw[hlen];simp [cC,hl]
  ·rename_i s t xs hl
   obtain⟨h1,h2⟩:=chk_some h
   simp only[fits,decide_eq_true_eq]at h1
   have hlen:(lTake n (lDrop lo xs)).length=n:=by simp [lTake,lDrop];omega
   refine⟨t,_,r,[],lo,_,h2,hc, ?_,by simp only[nodeX,hl];rfl,by rw[hlen];simpa using h1,by rw[hlen];simp [lTake,lDrop]⟩
   rw[hlen];simp [cC,hl]
  ·simp at h
 ·rename_i r v p lo t ws
  split at h
  ·rename_i hv
   obtain⟨a1,a2,a3⟩:=hc
   obtain⟨l,b1,b2,b3⟩:=a3 hv
   exact⟨t,ws,r,p,lo,l,h,a1,by simp [cC,hv],b1,b2,b3⟩
  ·simp at h
 ·simp at h
theorem cells_sim {R:XRs}{y:V}{x:XV}(h:WkV y (cV R x)){cs:List XC}(hc:cellsXV x=some cs):∃ys,cellsV y=some ys/\All2 WkC ys (cs.map (cC R))/\∀zs:List C,True:=by
 cases x with
 | a x =>
  cases y with
  | a y =>
   cases x with
   | c x =>
    cases y with
    | c y=>simp only[cellsXV,Option.some.injEq]at hc;subst hc;exact⟨[y],rfl,⟨h,trivial⟩,fun _=>trivial⟩
    | ag _=>exact h.elim
   | ag xs =>
    cases y with
    | c y=>exact h.elim
    | ag ys=>simp only[cellsXV,Option.some.injEq]at hc;subst hc;exact⟨ys,rfl,h,fun _=>trivial⟩
  | _=>exact h.elim
 | _=>simp [cellsXV]at hc
theorem wk_drop {n:Nat}:∀{ys xs:List C},All2 WkC ys xs->All2 WkC (ys.drop n) (xs.drop n):=by
 induction n with
 | zero=>exact fun h=>h
 | succ n ih=>intro ys xs h;match ys,xs,h with
  | [],[],_=>trivial
  | _::ys,_::xs,h=>exact ih h.2
theorem wk_take {n:Nat}:∀{ys xs:List C},All2 WkC ys xs->All2 WkC (ys.take n) (xs.take n):=by
 induction n with
 | zero=>intro ys xs _;trivial
 | succ n ih=>intro ys xs h;match ys,xs,h with
  | [],[],_=>trivial
  | _::ys,_::xs,h=>exact⟨h.1,ih h.2⟩
theorem wk_app:∀{ys xs ys' xs':List C},All2 WkC ys xs->All2 WkC ys' xs'->All2 WkC (ys++ys') (xs++xs')
 | [],[],_,_,_,h=>h
 | _::ys,_::xs,_,_,h,h'=>⟨h.1,wk_app h.2 h'⟩
 | [],_::_,_,_,h,_=>h.elim
 | _::_,[],_,_,h,_=>h.elim
theorem fill_sim {X:XSt}{S:St}(hX:XOk X) (h:SimX X S):∀(parts:List (Nat×Nat×Opd)) (cs:List XC) (ys:List C) (out:List XC),All2 WkC ys (cs.map (cC X.roots))->(∀c∈cs,okC X.roots X.next X.stamp c)->fillX X cs parts=some out ->
  ∃zs,fillC S ys parts=some zs/\All2 WkC zs (out.map (cC X.roots))/\(∀c∈out,okC X.roots X.next X.stamp c)
 | [],cs,ys,out,hw,ho,hf=>by
  simp only[fillX,Option.some.injEq]at hf;subst hf
  exact⟨ys,rfl,hw,ho⟩
 | (off,sz,x)::parts,cs,ys,out,hw,ho,hf=>by
  simp only[fillX]at hf
  split at hf
  ·rename_i us hu
   split at hf
   ·rename_i hb
    simp only[Bool.and_eq_true]at hb
    have hb1:=Nat.eq_of_beq_eq_true hb.1
    have hb2:=Nat.le_of_ble_eq_true hb.2
    obtain⟨vs,h1,h2,_⟩:=cells_sim (opd_sim h x) hu
    have l1:=h2.length
    have l2:=hw.length
    simp only[List.length_map]at l1 l2
    have hok:=opd_okV hX x
    have:=fill_sim hX h parts _ (ys.take off++(vs++ys.drop (off+sz))) out ?_ ?_ hf
    ·obtain⟨zs,e1,e2⟩:=this
     refine⟨zs, ?_,e2⟩
     simp only[fillC,h1]
     rw[if_pos ⟨by omega,by omega⟩]
     exact e1
    ·simp only[List.map_append,List.map_take,List.map_drop]
     exact wk_app (wk_take hw) (wk_app h2 (wk_drop hw))
    ·intro c hc
     simp only[List.mem_append]at hc
     rcases hc with hc|hc|hc
     ·exact ho c (List.mem_of_mem_take hc)
     ·generalize X.opd x=v at hu hok
      cases v with
      | a v=>cases v with
       | c v=>simp only[cellsXV,Option.some.injEq]at hu;subst hu;simp only[List.mem_singleton]at hc;subst hc;exact hok
       | ag v=>simp only[cellsXV,Option.some.injEq]at hu;subst hu;exact hok c hc
      | _=>simp [cellsXV]at hu
     ·exact ho c (List.mem_of_mem_drop hc)
   ·simp at hf
  ·simp at hf
theorem intOf_sim {X:XSt}{S:St}(h:SimX X S){x:Opd}{z:Int}(hx:intOf (X.opd x)=some z):∃k,S.opd x=.a (.c (.lf (.int k z))):=by
 unfold intOf at hx
 split at hx
 ·rename_i c hc
  split at hx
  ·rename_i k z' ht
   simp only[Option.some.injEq]at hx;subst hx
   refine⟨k, ?_⟩
   rw[opd_c h hc (by rw[toI_c ht];simp),toI_c ht]
  ·simp at hx
 ·simp at hx
theorem mbI_sim {X:XSt}{S:St}(h:SimX X S){x:Option Opd}{z:Option Int}(hx:mbI X x=some z):(x=none/\z=none)\/∃k w,z=some w/\x.map S.opd=some (.a (.c (.lf (.int k w)))):=by
 cases x with
 | none=>simp only[mbI,Option.some.injEq]at hx;exact .inl ⟨rfl,hx.symm⟩
 | some x =>
  simp only[mbI]at hx
  split at hx
  ·rename_i w hw
   simp only[Option.some.injEq]at hx;subst hx
   obtain⟨k,hk⟩:=intOf_sim h hw
   exact .inr ⟨k,w,rfl,by simp [hk]⟩
  ·simp at hx
theorem ext_str (l:List UInt8) (a b:Nat):(⟨l.toArray⟩:ByteArray).extract a b=⟨((l.drop a).take (b-a)).toArray⟩:=ByteArray.extract_mk l a b
theorem str_size (l:List UInt8):(⟨l.toArray⟩:ByteArray).size=l.length:=rfl
theorem str_get (l:List UInt8) (n:Nat):(⟨l.toArray⟩:ByteArray)[n]? = l[n]?:=by
 by_cases h:n<l.length
 ·rw[List.getElem?_eq_getElem h,ByteArray.getElem?_lt' _ _ h];rfl
 ·rw[List.getElem?_eq_none (by omega),ByteArray.getElem?_ge' _ _ h]
theorem str_app (a b:List UInt8):(⟨a.toArray⟩:ByteArray)++⟨b.toArray⟩=⟨(a++b).toArray⟩:=ByteArray.mk_append_mk a b
theorem str_toList (a:List UInt8):(⟨a.toArray⟩:ByteArray).toList=a:=ByteArray.toList_mk a
end Go.Vs
namespace Go.Vs
variable [Glb]
def RdOk {β:Type}(X:XSt) (S:St) (i:I) (k:XV->Option β) (out:β):Prop :=
 ∃xv,k xv=some out/\okV X.roots X.next X.stamp xv/\∃v,WkV v (cV X.roots xv)/\∀K:V->Prop,K v->ev S K i
section
variable {β:Type} {X:XSt} {S:St} {out:β}
theorem rdOk_c {i:I}{k:XV->Option β}{c:XC}(h1:k (.a (.c c))=some out) (h2:okC X.roots X.next X.stamp c) (h3:∀K:V->Prop,K (.a (.c (cC X.roots c)))->ev S K i):RdOk X S i k out :=
 ⟨_,h1,h2,.a (.c (cC X.roots c)),WkC.refl _,h3⟩
theorem tmod8 {a b:Int}(ha:0<=a/\a<256):0<=a.tmod b/\a.tmod b<256:=by
 have h1:=Int.tmod_nonneg b ha.1
 have h2:a.tmod b<=a:=by
  rw[Int.tmod_def]
  have:=Int.le_of_lt_add_one (a:=0) (b:=a) (by omega)
  have h3:0<=b*a.tdiv b:=by
   rcases Int.le_total 0 b with hb|hb
   ·exact Int.mul_nonneg hb (Int.tdiv_nonneg ha.1 hb)
   ·exact Int.mul_nonneg_of_nonpos_of_nonpos hb (Int.tdiv_nonpos_of_nonneg_of_nonpos ha.1 hb)
  omega
 omega
theorem fdiv8 {a:Int}{n:Nat}(ha:0<=a/\a<256):0<=a.fdiv (2^n)/\a.fdiv (2^n)<256:=by
 have hp:(0:Int)<2^n:=Int.pow_pos (by omega)
 rw[Int.fdiv_eq_ediv_of_nonneg _ (Int.le_of_lt hp)]
 exact⟨Int.ediv_nonneg ha.1 (Int.le_of_lt hp),Int.lt_of_le_of_lt (Int.ediv_le_self _ ha.1) ha.2⟩
theorem sbin_ok {R:XRs}{op:BinOp}{a b:List UInt8}{c:XC}(h:sbinX op a b=some c):∃r,leafBin op (.string ⟨a.toArray⟩) (.string ⟨b.toArray⟩)=some r/\cC R c=.lf r:=by
 cases op<;>simp only[sbinX,Option.some.injEq,reduceCtorEq]at h<;>(subst h;refine⟨_,rfl, ?_⟩;simp only[str_toList];rfl)
theorem bin_ok {R:XRs}{op:BinOp}{k1 k2:IntKind}{a b:Int}{c:XC}(hk:(kEq k1 k2||!binK op)=true) (hb:binC op b=true) (hr:k1=.u8->0<=a/\a<256) (h:binX op k1 a b=some c):∃r,leafBin op (.int k1 a) (.int k2 b)=some r/\cC R c=.lf r:=by
 cases op<;>simp only[binX,Option.some.injEq,reduceCtorEq]at h<;>subst h<;>simp only[binC,iLe,iNe,bne_iff_ne,ne_eq,decide_eq_true_eq]at hb <;>
  simp only[binK,kEq,Bool.not_true,Bool.not_false,Bool.or_false,Bool.or_true,decide_eq_true_eq]at hk<;>(try subst hk)<;>simp only[leafBin,if_true,hb,not_false_eq_true,and_self]
 all_goals first|refine⟨_,rfl, ?_⟩|refine⟨_,if_pos ⟨trivial,hb⟩, ?_⟩
 all_goals first
  | exact mkW_c
  | rfl
  | exact mkI_c fun e=>tmod8 (hr e)
  | exact mkI_c fun e=>fdiv8 (hr e)
theorem binX_ok {R:XRs}{nx st:Nat}{op:BinOp}{k1:IntKind}{a b:Int}{c:XC}(h:binX op k1 a b=some c):okC R nx st c:=by
 cases op<;>simp only[binX,Option.some.injEq,reduceCtorEq]at h<;>subst h<;>first|exact mkI_ok|trivial
theorem sbinX_ok {R:XRs}{nx st:Nat}{op:BinOp}{a b:List UInt8}{c:XC}(h:sbinX op a b=some c):okC R nx st c:=by
 cases op<;>simp only[sbinX,Option.some.injEq,reduceCtorEq]at h<;>subst h<;>trivial
theorem leafX_ok (hX:XOk X) (hS:SimX X S){op:BinOp}{x y:Opd}{u v:XC}{k:XV->Option β}(hu:X.opd x=.a (.c u)) (hv:X.opd y=.a (.c v)) (h:leafX op u v (fun c=>k (.a (.c c)))=some out):RdOk X S (.bin op x y) k out:=by
 unfold leafX at h
 split at h
 ·rename_i a b
  have e1:=opd_c hS hu (by simp [cC])
  have e2:=opd_c hS hv (by simp [cC])
  split at h
  ·rename_i hop
   obtain⟨h1,h2⟩:=chk_some h
   simp only[small,decide_eq_true_eq]at h1
   refine rdOk_c h2 trivial fun K hK=>?_
   simp only[ev,e1,e2,cC]
   cases op<;>simp [isAdd]at hop
   refine⟨_, ?_,hK⟩
   simp only[leafBin]
   rw[if_pos (by rw[str_size,str_size];exact h1),str_app];rfl
  ·split at h
   ·rename_i c hc
    refine rdOk_c h (sbinX_ok hc) fun K hK=>?_
    obtain⟨r,h1,h2⟩:=sbin_ok (R:=X.roots) hc
    rw[h2]at hK
    simp only[ev,e1,e2,cC]
    exact⟨r,h1,hK⟩
   ·simp at h
 ·split at h
  ·rename_i k1 a k2 b h1 h2
   split at h
   ·rename_i hk
    obtain⟨hc,h⟩:=chk_some h
    split at h
    ·rename_i c hb
     have e1:=opd_c hS hu (by rw[toI_c h1];simp)
     have e2:=opd_c hS hv (by rw[toI_c h2];simp)
     rw[toI_c h1]at e1
     rw[toI_c h2]at e2
     refine rdOk_c h (binX_ok hb) fun K hK=>?_
     obtain⟨r,h1,h2⟩:=bin_ok (R:=X.roots) hk hc (toI_u8 h1) hb
     rw[h2]at hK
     simp only[ev,e1,e2]
     exact⟨r,h1,hK⟩
    ·simp at h
   ·simp at h
  ·simp at h
theorem within_some {l h n:Int}(k:within l h n=true):0<=l/\l<=h/\h<=n:=by simpa [within] using k
theorem st0_eq (l:Option Int):st0 l=nOf (l.getD 0):=by cases l<;>rfl
theorem slc_len {α:Type}{ws:List α}{l h:Int}(k:0<=l/\l<=h/\h<=(ws.length:Int)):(lTake (nOf h-nOf l) (lDrop (nOf l) ws)).length=h.toNat-l.toNat:=by
 simp only[lTake,lDrop,nOf,List.length_take,List.length_drop];omega
theorem ev_slc {z0:Nat}{x:Opd}{lo hi:Option Opd}{r:Nat}{p:Path}{l0 n:Nat}{xl:Option Int}{xh:Option Int}(hx:S.opd x=.a (.c (.rf r p z0 l0 n))) (hl:(lo=none/\xl=none)\/∃k w,xl=some w/\lo.map S.opd=some (.a (.c (.lf (.int k w))))) (hh:(hi=none/\xh=none)\/∃k w,xh=some w/\hi.map S.opd=some (.a (.c (.lf (.int k w)))))
  (hw:0<=xl.getD 0/\xl.getD 0<=xh.getD n/\xh.getD n<=n) {K:V->Prop} (hK:K (.a (.c (.rf r p z0 (l0+(xl.getD 0).toNat) ((xh.getD n).toNat-(xl.getD 0).toNat))))):ev S K (.slc z0 x lo hi):=by
 rcases hl with ⟨rfl,rfl⟩|⟨k1,w1,rfl,e1⟩<;>rcases hh with ⟨rfl,rfl⟩|⟨k2,w2,rfl,e2⟩
 ·simp only[ev,hx,Option.map_none,Option.getD_none]at hK ⊢
  simpa using hK
 ·simp only[ev,hx,Option.map_none,e2,Option.getD_none,Option.getD_some]at hK hw ⊢
  exact⟨trivial,⟨by omega,hw.2.2⟩,by simpa using hK⟩
 ·simp only[ev,hx,Option.map_none,e1,Option.getD_none,Option.getD_some,Int.toNat_natCast]at hK hw ⊢
  exact⟨trivial,⟨hw.1,hw.2.1⟩,hK⟩
 ·simp only[ev,hx,e1,e2,Option.getD_some]at hK hw ⊢
  exact⟨trivial,hw,hK⟩
theorem slcX_ok (hX:XOk X) (hS:SimX X S){z0:Nat}{x:Opd}{lo hi:Option Opd}{c:XC}{xl xh:Option Int}{k:XV->Option β}(hx:X.opd x=.a (.c c)) (hl:mbI X lo=some xl) (hh:mbI X hi=some xh) (h:slcX X.roots z0 c xl xh (fun c=>k (.a (.c c)))=some out):RdOk X S (.slc z0 x lo hi) k out:=by
 have hok:okC X.roots X.next X.stamp c:=by have:=opd_okV hX x;rw[hx]at this;exact this
 have L:=mbI_sim hS hl
 have H:=mbI_sim hS hh
 unfold slcX at h
 simp only[st0_eq]at h
 split at h
 ·rename_i r
  split at h
  ·rename_i s t xs hr
   split at h
   ·rename_i hz
    have hz:=Nat.eq_of_beq_eq_true hz
    subst hz
    obtain⟨h1,h2⟩:=chk_some h
    have h1:=within_some h1
    refine rdOk_c h2 hok fun K hK=>?_
    simp only[cC,hr]at hK
    have hxS:S.opd x=.a (.c (.rf r [] t.n 0 xs.length)):=by rw[opd_c hS hx (by simp [cC,hr])];simp only[cC,hr]
    exact ev_slc hxS L H h1 (by simpa [nOf,lLen] using hK)
   ·simp at h
  ·rename_i v t xs hr
   split at h
   ·rename_i hz
    have hz:=Nat.eq_of_beq_eq_true hz
    subst hz
    obtain⟨h1,h2⟩:=chk_some h
    have h1:=within_some h1
    have hv:verOk X.roots r v=true:=verOk_of hr
    have hlen:=slc_len (ws:=xs) h1
    have hnode:nodeX X.roots r []=some (t.n,xs.map (encT t)):=by simp only[nodeX,hr];rfl
    simp only[lLen]at h1 h2 hlen
    refine rdOk_c h2 ⟨hok,(hX.ids r v _ hr).2,fun _=>⟨_,hnode, ?_, ?_⟩⟩ fun K hK=>?_
    ·rw[hlen];simp only[nOf,List.length_map];omega
    ·rw[hlen];simp only[lTake,lDrop,nOf,List.map_take,List.map_drop]
    ·simp only[cC,hv,hlen]at hK
     have hxS:S.opd x=.a (.c (.rf r [] t.n 0 xs.length)):=by rw[opd_c hS hx (by simp [cC,hr])];simp only[cC,hr]
     exact ev_slc hxS L H h1 (by simpa [nOf,lLen] using hK)
   ·simp at h
  ·simp at h
 ·rename_i r l0 n
  split at h
  ·rename_i s t xs hr
   split at h
   ·rename_i hz
    have hz:=Nat.eq_of_beq_eq_true hz
    subst hz
    obtain⟨h1,h2⟩:=chk_some h
    have h1:=within_some h1
    refine rdOk_c h2 hok fun K hK=>?_
    simp only[cC,hr]at hK
    exact ev_slc (by rw[opd_c hS hx (by simp [cC,hr])];simp only[cC,hr]) L H h1 hK
   ·simp at h
  ·simp at h
 ·rename_i r v p l0 t ws
  split at h
  ·rename_i hz
   simp only[Bool.and_eq_true]at hz
   obtain⟨hv,hz⟩:=hz
   have hz:=Nat.eq_of_beq_eq_true hz
   subst hz
   obtain⟨h1,h2⟩:=chk_some h
   have h1:=within_some h1
   have hlen:=slc_len (ws:=ws) h1
   simp only[lLen]at h1 h2 hlen
   obtain⟨a1,a2,a3⟩:=hok
   obtain⟨l,b1,b2,b3⟩:=a3 hv
   refine rdOk_c h2 ⟨a1,a2,fun _=>⟨l,b1, ?_, ?_⟩⟩ fun K hK=>?_
   ·rw[hlen];simp only[nOf];omega
   ·rw[hlen];simp only[lTake,lDrop,nOf,List.map_take,List.map_drop,<-b3]
    rw[List.drop_take,List.take_take,List.drop_drop]
    congr 1
    omega
   ·simp only[cC,hv,hlen]at hK
    exact ev_slc (by rw[opd_c hS hx (by simp [cC,hv])];simp only[cC,hv]) L H h1 hK
  ·simp at h
 ·simp at h
theorem drop_get {α:Type}{l:List α}{lo n:Nat}{ws:List (List D)}{l':List (List D)}{i:Nat}{e:List D}(h:(l'.drop lo).take n=ws) (hi:ws[i]? = some e):l'[lo+i]? = some e:=by
 subst h
 rw[List.getElem?_take]at hi
 split at hi
 ·simpa using hi
 ·simp at hi
theorem ev_iad {sz:Nat}{x j:Opd}{r:Nat}{p:Path}{lo n:Nat}{kd:IntKind}{z:Int}(hx:S.opd x=.a (.c (.rf r p sz lo n))) (hj:S.opd j=.a (.c (.lf (.int kd z)))) (h0:0<=z) (h1:z.toNat<n){K:V->Prop}(hK:K (.a (.c (.pe r p (lo+z.toNat) 0)))):ev S K (.iad sz x j):=by
 simp only[ev,hx,hj]
 exact⟨trivial,⟨h0,by omega⟩,hK⟩
theorem iadX_ok (hX:XOk X) (hS:SimX X S){sz:Nat}{x j:Opd}{c:XC}{z:Int}{k:XV->Option β}(hx:X.opd x=.a (.c c)) (hj:intOf (X.opd j)=some z) (h:iadX X.roots sz c z (fun c=>k (.a (.c c)))=some out):RdOk X S (.iad sz x j) k out:=by
 have hok:okC X.roots X.next X.stamp c:=by have:=opd_okV hX x;rw[hx]at this;exact this
 obtain⟨kd,J⟩:=intOf_sim hS hj
 unfold iadX at h
 split at h
 ·rename_i r
  split at h
  ·rename_i v t xs hr
   split at h
   ·rename_i hz
    have hz:=Nat.eq_of_beq_eq_true hz
    subst hz
    obtain⟨e,h1,h2⟩:=bnd_some h
    obtain⟨h0,h1⟩:=idx_some h1
    have hv:verOk X.roots r v=true:=verOk_of hr
    have hnode:nodeX X.roots r []=some (t.n,xs.map (encT t)):=by simp only[nodeX,hr];rfl
    have hxS:S.opd x=.a (.c (.rf r [] t.n 0 xs.length)):=by rw[opd_c hS hx (by simp [cC,hr])];simp only[cC,hr]
    refine rdOk_c h2 ⟨hok,(hX.ids r v _ hr).2,fun _=>⟨_,hnode, ?_⟩⟩ fun K hK=>?_
    ·rw[List.getElem?_map,nOf,h1];rfl
    ·simp only[cC,hv]at hK
     exact ev_iad hxS J h0 (List.getElem?_eq_some_iff.1 h1).1 (by simpa [nOf] using hK)
   ·simp at h
  ·rename_i v t xs hr
   split at h
   ·rename_i hz
    have hz:=Nat.eq_of_beq_eq_true hz
    subst hz
    obtain⟨e,h1,h2⟩:=bnd_some h
    obtain⟨h0,h1⟩:=idx_some h1
    have hv:verOk X.roots r v=true:=verOk_of hr
    have hnode:nodeX X.roots r []=some (t.n,xs.map (encT t)):=by simp only[nodeX,hr];rfl
    have hxS:S.opd x=.a (.c (.rf r [] t.n 0 xs.length)):=by rw[opd_c hS hx (by simp [cC,hr])];simp only[cC,hr]
    refine rdOk_c h2 ⟨hok,(hX.ids r v _ hr).2,fun _=>⟨_,hnode, ?_⟩⟩ fun K hK=>?_
    ·rw[List.getElem?_map,nOf,h1];rfl
    ·simp only[cC,hv]at hK
     exact ev_iad hxS J h0 (List.getElem?_eq_some_iff.1 h1).1 (by simpa [nOf] using hK)
   ·simp at h
  ·simp at h
 ·rename_i r lo n
  split at h
  ·rename_i v t xs hr
   split at h
   ·rename_i hz
    have hz:=Nat.eq_of_beq_eq_true hz
    subst hz
    obtain⟨hlt,h⟩:=chk_some h
    simp only[iLt,decide_eq_true_eq,Int.ofNat_eq_natCast]at hlt
    obtain⟨e,h1,h2⟩:=bnd_some h
    obtain⟨h0,h1⟩:=idx_some h1
    have hv:verOk X.roots r v=true:=verOk_of hr
    have hnode:nodeX X.roots r []=some (t.n,xs.map (encT t)):=by simp only[nodeX,hr];rfl
    have hxS:S.opd x=.a (.c (.rf r [] t.n lo n)):=by rw[opd_c hS hx (by simp [cC,hr])];simp only[cC,hr]
    refine rdOk_c h2 ⟨hok,(hX.ids r v _ hr).2,fun _=>⟨_,hnode, ?_⟩⟩ fun K hK=>?_
    ·simp only[lDrop,List.getElem?_drop]at h1
     rw[List.getElem?_map,nOf,h1];rfl
    ·simp only[cC,hv]at hK
     exact ev_iad hxS J h0 (by omega) hK
   ·simp at h
  ·simp at h
 ·rename_i r v p lo t ws
  split at h
  ·rename_i hz
   simp only[Bool.and_eq_true]at hz
   obtain⟨hv,hz⟩:=hz
   have hz:=Nat.eq_of_beq_eq_true hz
   subst hz
   obtain⟨e,h1,h2⟩:=bnd_some h
   obtain⟨h0,h1⟩:=idx_some h1
   obtain⟨a1,a2,a3⟩:=hok
   obtain⟨l,b1,b2,b3⟩:=a3 hv
   have hxS:S.opd x=.a (.c (.rf r p t.n lo ws.length)):=by rw[opd_c hS hx (by simp [cC,hv])];simp only[cC,hv]
   refine rdOk_c h2 ⟨a1,a2,fun _=>⟨l,b1, ?_⟩⟩ fun K hK=>?_
   ·refine drop_get (α:=Nat) (l:=[]) b3 ?_
    rw[List.getElem?_map,nOf,h1];rfl
   ·simp only[cC,hv]at hK
    exact ev_iad hxS J h0 (List.getElem?_eq_some_iff.1 h1).1 hK
  ·simp at h
 ·simp at h
theorem lenX_ok (hX:XOk X) (hS:SimX X S){x:Opd}{c:XC}{k:XV->Option β}(hx:X.opd x=.a (.c c)) (h:lenX X.roots c (fun z=>k (.a (.c (.i .i64 z))))=some out):RdOk X S (.len x) k out:=by
 unfold lenX at h
 split at h
 ·refine rdOk_c h trivial fun K hK=>?_
  simp only[ev,opd_c hS hx (by simp [cC])]
  exact hK
 ·rename_i r
  split at h
  ·rename_i v t xs hr
   refine rdOk_c h trivial fun K hK=>?_
   have hxS:S.opd x=.a (.c (.rf r [] t.n 0 xs.length)):=by rw[opd_c hS hx (by simp [cC,hr])];simp only[cC,hr]
   simp only[ev,hxS]
   exact hK
  ·rename_i v t xs hr
   refine rdOk_c h trivial fun K hK=>?_
   have hxS:S.opd x=.a (.c (.rf r [] t.n 0 xs.length)):=by rw[opd_c hS hx (by simp [cC,hr])];simp only[cC,hr]
   simp only[ev,hxS]
   exact hK
  ·simp at h
 ·rename_i r lo n
  split at h
  ·rename_i v t xs hr
   refine rdOk_c h trivial fun K hK=>?_
   have hxS:S.opd x=.a (.c (.rf r [] t.n lo n)):=by rw[opd_c hS hx (by simp [cC,hr])];simp only[cC,hr]
   simp only[ev,hxS]
   exact hK
  ·rename_i v t xs hr
   refine rdOk_c h trivial fun K hK=>?_
   have hxS:S.opd x=.a (.c (.rf r [] t.n lo n)):=by rw[opd_c hS hx (by simp [cC,hr])];simp only[cC,hr]
   simp only[ev,hxS]
   exact hK
  ·simp at h
 ·rename_i r v p lo t ws
  split at h
  ·rename_i hv
   refine rdOk_c h trivial fun K hK=>?_
   have hxS:S.opd x=.a (.c (.rf r p t.n lo ws.length)):=by rw[opd_c hS hx (by simp [cC,hv])];simp only[cC,hv]
   simp only[ev,hxS]
   exact hK
  ·simp at h
 ·simp at h
theorem pickX_ok (hX:XOk X) (hS:SimX X S){c a b:Opd}{t:Bool}{k:XV->Option β}(hc:X.opd c=.a (.c (.b t))) (h:pickX t (X.opd a) (X.opd b) k=some out):RdOk X S (.pick c a b) k out:=by
 have hcS:S.opd c=.a (.c (.lf (.bool t))):=opd_c hS hc (by simp [cC])
 have hev:∀K:V->Prop,K (if t=true then S.opd a else S.opd b)->ev S K (.pick c a b):=by
  intro K hK
  simp only[ev,hcS]
  cases t<;>simpa using hK
 unfold pickX at h
 split at h
 ·rename_i x y ha hb
  refine⟨_,h,trivial,_, ?_,hev⟩
  have e1:=opd_c hS ha (by simp [cC])
  have e2:=opd_c hS hb (by simp [cC])
  rw[e1,e2]
  cases t<;>exact WkC.refl _
 ·rename_i k1 x k2 y ha hb
  split at h
  ·rename_i hk
   simp only[kEq,decide_eq_true_eq]at hk
   subst hk
   refine⟨_,h,trivial,_, ?_,hev⟩
   have e1:=opd_c hS ha (by simp [cC])
   have e2:=opd_c hS hb (by simp [cC])
   rw[e1,e2]
   cases t<;>exact WkC.refl _
  ·simp at h
 ·rcases cnd_some h with ⟨rfl,h⟩|⟨rfl,h⟩
  ·exact⟨_,h,opd_okV hX a,_,opd_sim hS a,fun K hK=>hev K (by simpa using hK)⟩
  ·exact⟨_,h,opd_okV hX b,_,opd_sim hS b,fun K hK=>hev K (by simpa using hK)⟩
end
end Go.Vs
namespace Go.Vs
variable [Glb]
section
variable {β:Type} {X:XSt} {S:St} {out:β}
theorem bytesOf_enc:∀ws:List UInt8,bytesOf (ws.map (encT .Y))=some ws
 | []=>rfl
 | b::ws=>by
  have:=bytesOf_enc ws
  simp only[List.map_cons,encT,bytesOf]at this ⊢
  rw[this]
  simp
theorem wk_get:∀{ys xs:List C}{i:Nat}{x:C},All2 WkC ys xs->xs[i]? = some x->∃y,ys[i]? = some y/\WkC y x
 | [],[],i,x,_,h=>by simp at h
 | y::ys,x'::xs,0,x,h,hx=>by simp at hx;subst hx;exact⟨y,rfl,h.1⟩
 | y::ys,x'::xs,i+1,x,h,hx=>by simpa using wk_get h.2 (by simpa using hx)
 | [],_::_,_,_,h,_=>h.elim
 | _::_,[],_,_,h,_=>h.elim
theorem wkA_get:∀{ys xs:List A}{i:Nat}{x:A},All2 WkA ys xs->xs[i]? = some x->∃y,ys[i]? = some y/\WkA y x
 | [],[],i,x,_,h=>by simp at h
 | y::ys,x'::xs,0,x,h,hx=>by simp at hx;subst hx;exact⟨y,rfl,h.1⟩
 | y::ys,x'::xs,i+1,x,h,hx=>by simpa using wkA_get h.2 (by simpa using hx)
 | [],_::_,_,_,h,_=>h.elim
 | _::_,[],_,_,h,_=>h.elim
theorem ints_ok {R:XRs}:∀{cs:List XC}{l:List Int},intsX cs=some l->cs.map (cC R)=l.map fun z=>C.lf (.int .i64 z)
 | [],l,h=>by simp only[intsX,Option.some.injEq]at h;subst h;rfl
 | c::cs,l,h=>by
  unfold intsX at h
  split at h
  ·rename_i heq;simp at heq
  ·rename_i z l' heq
   split at h
   ·rename_i m hm
    simp only[Option.some.injEq]at h;subst h
    cases heq
    simp only[List.map_cons,ints_ok hm]
    rfl
   ·simp at h
  ·simp at h
theorem glX_ok {R:XRs}{nx st b:Nat}{l:List UInt8}(hl:glbL Glb.tab b=some l):∀(o m:Nat) (k:List XC->Option β),glX l o m k=some out->∃cs,k cs=some out/\(∀c∈cs,okC R nx st c)/\∃vs,glbCs b o m=some vs/\cs.map (cC R)=vs.map .lf
 | o,0,k,h=>⟨[],h,by simp,[],rfl,rfl⟩
 | o,m+1,k,h=>by
  simp only[glX]at h
  obtain⟨y,hy,h⟩:=bnd_some h
  obtain⟨cs,h1,h2,vs,h3,h4⟩:=glX_ok hl (o+1) m _ h
  have hy':l[o]? = some y:=by simpa [idx] using hy
  refine⟨.y y::cs,h1, ?_,.int .u8 y.toNat::vs, ?_, ?_⟩
  ·intro c hc
   rcases List.mem_cons.1 hc with rfl|hc
   ·trivial
   ·exact h2 c hc
  ·simp only[glbCs,glbAt,hl,hy',h3]
  ·simp only[List.map_cons,h4];rfl
theorem load_ok (hX:XOk X) (hS:SimX X S){n:Option Nat}{x:Opd}{k:XV->Option β}(h:rdX X (.load n x) k=some out):RdOk X S (.load n x) k out:=by
 have hok:=opd_okV hX x
 simp only[rdX]at h
 split at h
 ·rename_i r v p i c t e hx
  rw[hx]at hok
  obtain⟨a1,a2,a3⟩:=hok
  split at h
  ·rename_i hv
   obtain⟨l,b1,b2⟩:=a3 hv
   have hxS:S.opd x=.a (.c (.pe r p i c)):=by rw[opd_c hS hx (by simp [cC,hv])];simp only[cC,hv]
   have hnode:S.node r p=some (t.n,l):=by rw[node_eq];exact node_sim hS b1
   have hcells:=cellsX_c hv p i t e 0
   have hcok:=cellsX_ok (nx:=X.next) (st:=X.stamp) a1 a2 (fun _=>⟨b1,b2⟩) t e 0 (fun j d hd=>by simpa using hd)
   split at h
   ·split at h
    ·rename_i y hy
     refine rdOk_c h (hcok y (List.mem_of_getElem? hy)) fun K hK=>?_
     have h1:((cellsX r v p i t e 0).map (cC X.roots))[c]? = some (cC X.roots y):=by rw[List.getElem?_map,hy];rfl
     rw[hcells]at h1
     have key:∀(ds:List D) (c0 c:Nat) (z:C),(toCs r p i c0 ds)[c]? = some z->∃d,ds[c]? = some d/\z=toC r p i (c0+c) d:=by
      intro ds
      induction ds with
      | nil=>intro c0 c z hz;simp [toCs]at hz
      | cons d ds ih =>
       intro c0 c z hz
       cases c with
       | zero=>simp [toCs]at hz;exact⟨d,rfl,hz.symm⟩
       | succ c =>
        simp only[toCs,List.getElem?_cons_succ]at hz
        obtain⟨d',h1,h2⟩:=ih (c0+1) c z hz
        exact⟨d',by simpa using h1,by rw[h2,show c0+1+c=c0+(c+1) by omega]⟩
     obtain⟨d,hd,hz⟩:=key _ 0 c _ h1
     simp only[Nat.zero_add]at hz
     simp only[ev,hxS]
     refine⟨d, ?_,by rw[<-hz];exact hK⟩
     rw[hnode]
     simp only[Option.bind_some,b2,hd]
    ·simp at h
   ·rename_i m
    split at h
    ·rename_i hm
     have hm:=Nat.le_of_ble_eq_true hm
     refine⟨_,h, ?_,.a (.ag (((cellsX r v p i t e 0).drop c |>.take m).map (cC X.roots))),All2.refl WkC.refl _,fun K hK=>?_⟩
     ·intro y hy
      exact hcok y (List.mem_of_mem_drop (List.mem_of_mem_take hy))
     ·simp only[ev,hxS]
      refine⟨encT t e,by rw[hnode];simp only[Option.bind_some,b2],by rw[encT_len];exact hm, ?_⟩
      have key:∀(c c0:Nat) (ds:List D),(toCs r p i c0 ds).drop c=toCs r p i (c0+c) (ds.drop c):=by
       intro c
       induction c with
       | zero=>intro c0 ds;rfl
       | succ c ih =>
        intro c0 ds
        cases ds with
        | nil=>simp [toCs]
        | cons d ds =>
         simp only[toCs,List.drop_succ_cons,ih]
         rw[show c0+1+c=c0+(c+1) by omega]
      have key2:∀(m c0:Nat) (ds:List D),(toCs r p i c0 ds).take m=toCs r p i c0 (ds.take m):=by
       intro m
       induction m with
       | zero=>intro c0 ds;rfl
       | succ m ih =>
        intro c0 ds
        cases ds with
        | nil=>simp [toCs]
        | cons d ds=>simp only[toCs,List.take_succ_cons,ih]
      simp only[List.map_take,List.map_drop,hcells,key,key2,Nat.zero_add]at hK
      exact hK
    ·simp at h
  ·simp at h
 ·rename_i r c hx
  split at h
  ·rename_i s cs hr
   have hxS:S.opd x=.a (.c (.pb r c)):=by rw[opd_c hS hx (by simp [cC,hr])];simp only[cC,hr]
   obtain⟨ys,g1,g2⟩:=box_sim hS hr
   have hb:S.bcells r=some ys:=by simp [St.bcells,g1]
   split at h
   ·split at h
    ·rename_i l hl
     obtain⟨e,he,h⟩:=bnd_some h
     have hint:intsX (cs.map (·.2))=some l:=by
      unfold bigX at hl
      split at hl
      ·exact hl
      ·simp at hl
     have hi:=ints_ok (R:=X.roots) hint
     have hc:(cs.map fun e=>cC X.roots e.2)[c]? = some (.lf (.int .i64 e)):=by
      have:(cs.map fun e=>cC X.roots e.2)=(cs.map (·.2)).map (cC X.roots):=by rw[List.map_map];rfl
      rw[this,hi,List.getElem?_map]
      have he':l[c]? = some e:=by simpa [idx] using he
      rw[he'];rfl
     obtain⟨z,z1,z2⟩:=wk_get (i:=c) g2 hc
     refine⟨_,h,trivial,.a (.c z),z2,fun K hK=>?_⟩
     simp only[ev,hxS]
     exact⟨z,by rw[hb];exact z1,hK⟩
    ·split at h
     ·rename_i y hy
      obtain⟨z,z1,z2⟩:=wk_get (i:=c) (x:=cC X.roots y.2) g2 (by rw[List.getElem?_map,hy];rfl)
      refine⟨_,h,(hX.box r s cs hr y (List.mem_of_getElem? hy)).2,.a (.c z),z2,fun K hK=>?_⟩
      simp only[ev,hxS]
      exact⟨z,by rw[hb];exact z1,hK⟩
     ·simp at h
   ·rename_i m
    split at h
    ·rename_i hm
     have hm:=Nat.le_of_ble_eq_true hm
     refine⟨_,h, ?_,.a (.ag ((ys.drop c).take m)), ?_,fun K hK=>?_⟩
     ·intro y hy
      obtain⟨e,he,rfl⟩:=List.mem_map.1 hy
      exact (hX.box r s cs hr e (List.mem_of_mem_drop (List.mem_of_mem_take he))).2
     ·have:=wk_take (n:=m) (wk_drop (n:=c) g2)
      simp only[cV,cA,WkV,WkA,List.map_map]
      rw[<-List.map_drop,<-List.map_take]at this
      exact this
     ·simp only[ev,hxS]
      have:=g2.length
      simp only[List.length_map]at this
      exact⟨ys,hb,by omega,hK⟩
    ·simp at h
  ·simp at h
 ·rename_i b o hx
  have hxS:S.opd x=.a (.c (.lf (.pointer (some ⟨b,o,none⟩)))):=by rw[opd_c hS hx (by simp [cC])];rfl
  split at h
  ·rename_i l hl
   split at h
   ·obtain⟨y,hy,h⟩:=bnd_some h
    refine rdOk_c h trivial fun K hK=>?_
    simp only[ev,hxS]
    have hy':l[o]? = some y:=by simpa [idx] using hy
    exact⟨.int .u8 y.toNat,by simp only[glbAt,hl,hy'],hK⟩
   ·rename_i m
    obtain⟨cs,h,h1,vs,h2,h3⟩:=glX_ok (R:=X.roots) (nx:=X.next) (st:=X.stamp) hl o m _ h
    refine⟨_,h,h1,.a (.ag (cs.map (cC X.roots))),All2.refl WkC.refl _,fun K hK=>?_⟩
    simp only[ev,hxS]
    exact⟨vs,h2,by rw[<-h3];exact hK⟩
  ·simp at h
 ·simp at h
theorem ev_ssl {x:Opd}{lo hi:Option Opd}{s:List UInt8}{xl xh:Option Int}(hx:S.opd x=.a (.c (.lf (.string ⟨s.toArray⟩)))) (hl:(lo=none/\xl=none)\/∃k w,xl=some w/\lo.map S.opd=some (.a (.c (.lf (.int k w))))) (hh:(hi=none/\xh=none)\/∃k w,xh=some w/\hi.map S.opd=some (.a (.c (.lf (.int k w)))))
  (hs:(lo.isSome||hi.isSome)=true) (hw:0<=xl.getD 0/\xl.getD 0<=xh.getD s.length/\xh.getD s.length<=s.length) {K:V->Prop} (hK:K (.a (.c (.lf (.string ⟨((s.drop (xl.getD 0).toNat).take ((xh.getD s.length).toNat-(xl.getD 0).toNat)).toArray⟩))))):ev S K (.ssl x lo hi):=by
 rcases hl with ⟨rfl,rfl⟩|⟨k1,w1,rfl,e1⟩<;>rcases hh with ⟨rfl,rfl⟩|⟨k2,w2,rfl,e2⟩
 ·simp at hs
 ·simp only[ev,hx,Option.map_none,e2,Option.getD_none,Option.getD_some,str_size]at hK hw ⊢
  refine⟨⟨by omega,hw.2.2⟩, ?_⟩
  rw[ext_str]
  simpa using hK
 ·simp only[ev,hx,Option.map_none,e1,Option.getD_none,Option.getD_some,str_size,Int.toNat_natCast]at hK hw ⊢
  refine⟨⟨hw.1,hw.2.1⟩, ?_⟩
  rw[ext_str]
  exact hK
 ·simp only[ev,hx,e1,e2,Option.getD_some,str_size]at hK hw ⊢
  refine⟨hw, ?_⟩
  rw[ext_str]
  exact hK
theorem lenZ_eq:∀l:List Int,lenZ l=l.length
 | []=>rfl
 | _::l=>by simp only[lenZ,lenZ_eq l,List.length_cons]
theorem intsX_wk {R:XRs}:∀{cs:List XC}{us:List Int}{ys:List C},intsX cs=some us->All2 WkC ys (cs.map (cC R))->ys=us.map (fun z=>C.lf (.int .i64 z))
 | [],us,ys,h,w=>by
  simp only[intsX,Option.some.injEq]at h;subst h
  cases ys with
  | nil=>rfl
  | cons _ _=>exact w.elim
 | c::cs,us,ys,h,w=>by
  cases ys with
  | nil=>exact w.elim
  | cons y ys =>
   unfold intsX at h
   split at h
   ·rename_i heq;cases heq
   ·rename_i heq
    simp only[List.cons.injEq]at heq
    obtain⟨rfl,rfl⟩:=heq
    split at h
    ·rename_i m hm
     simp only[Option.some.injEq]at h;subst h
     rw[List.map_cons,<-intsX_wk hm w.2]
     have:=w.1.eq (by simp [cC])
     rw[this];rfl
    ·cases h
   ·cases h
theorem asX_ok (hX:XOk X) (hS:SimX X S):∀(caps:List Opd) (cs:List XA),asX (caps.map X.opd)=some cs->∃ys,capsA (caps.map S.opd)=some ys/\All2 WkA ys (cs.map (cA X.roots))/\∀x∈cs,okA X.roots X.next X.stamp x
 | [],cs,h=>by
  simp only[List.map_nil,asX,Option.some.injEq]at h;subst h
  exact⟨[],rfl,trivial,by simp⟩
 | c::caps,cs,h=>by
  have h1:=opd_sim hS c
  have h2:=opd_okV hX c
  simp only[List.map_cons]at h
  cases hc:X.opd c with
  | a x =>
   rw[hc]at h h1 h2
   simp only[asX]at h
   split at h
   ·rename_i r hr
    simp only[Option.some.injEq]at h;subst h
    obtain⟨ys,e1,e2,e3⟩:=asX_ok hX hS caps r hr
    cases hy:S.opd c with
    | a y =>
     rw[hy]at h1
     refine⟨y::ys, ?_,⟨h1,e2⟩, ?_⟩
     ·simp only[List.map_cons,hy,capsA,e1,Option.map_some]
     ·intro z hz
      rcases List.mem_cons.1 hz with rfl|hz
      ·exact h2
      ·exact e3 z hz
    | _=>rw[hy]at h1;exact h1.elim
   ·cases h
  | _=>rw[hc]at h;simp [asX]at h
theorem rdX_ok (hX:XOk X) (hS:SimX X S){i:I}{k:XV->Option β}(h:rdX X i k=some out):RdOk X S i k out:=by
 cases i with
 | mv x=>exact⟨_,h,opd_okV hX x,_,opd_sim hS x,fun K hK=>hK⟩
 | pick c a b =>
  simp only[rdX]at h
  split at h
  ·rename_i t hc;exact pickX_ok hX hS hc h
  ·simp at h
 | load n x=>exact load_ok hX hS h
 | nilc x =>
  have hok:=opd_okV hX x
  simp only[rdX]at h
  split at h
  ·rename_i r v p i c t e hx
   rw[hx]at hok
   split at h
   ·rename_i hv
    refine rdOk_c h hok fun K hK=>?_
    have hxS:S.opd x=.a (.c (.pe r p i c)):=by rw[opd_c hS hx (by simp [cC,hv])];simp only[cC,hv]
    simp only[cC,hv]at hK
    simp only[ev,hxS];exact hK
   ·simp at h
  ·rename_i r c hx
   rw[hx]at hok
   split at h
   ·rename_i s cs hr
    refine rdOk_c h hok fun K hK=>?_
    have hxS:S.opd x=.a (.c (.pb r c)):=by rw[opd_c hS hx (by simp [cC,hr])];simp only[cC,hr]
    simp only[cC,hr]at hK
    simp only[ev,hxS];exact hK
   ·simp at h
  ·simp at h
 | bin op x y =>
  simp only[rdX]at h
  split at h
  ·rename_i u v hu hv;exact leafX_ok hX hS hu hv h
  ·simp at h
 | beq neg x y =>
  simp only[rdX]at h
  split at h
  ·rename_i u v hu hv
   refine rdOk_c h trivial fun K hK=>?_
   simp only[ev,opd_c hS hu (by simp [cC]),opd_c hS hv (by simp [cC]),cC]
   cases neg<;>exact hK
  ·simp at h
 | aeq neg m x y =>
  simp only[rdX]at h
  split at h
  ·rename_i cs ds hu hv
   split at h
   ·rename_i us vs h1 h2
    split at h
    ·rename_i hb
     simp only[Bool.and_eq_true]at hb
     refine rdOk_c h trivial fun K hK=>?_
     have s1:=opd_sim hS x
     have s2:=opd_sim hS y
     rw[hu]at s1
     rw[hv]at s2
     cases e1:S.opd x with
     | a q1 =>
      rw[e1]at s1
      cases e2:S.opd y with
      | a q2 =>
       rw[e2]at s2
       cases q1 with
       | ag zs=>cases q2 with
        | ag ws =>
         simp only[ev,e1,e2]
         refine⟨us,vs,intsX_wk h1 s1,intsX_wk h2 s2,by rw[<-lenZ_eq];exact Nat.eq_of_beq_eq_true hb.1,by rw[<-lenZ_eq];exact Nat.eq_of_beq_eq_true hb.2, ?_⟩
         cases neg<;>exact hK
        | c _=>exact s2.elim
       | c _=>exact s1.elim
      | _=>rw[e2]at s2;exact s2.elim
     | _=>rw[e1]at s1;exact s1.elim
    ·cases h
   ·cases h
  ·cases h
 | un op x =>
  simp only[rdX]at h
  split at h
  ·rename_i u hu
   refine rdOk_c h trivial fun K hK=>?_
   simp only[ev,opd_c hS hu (by simp [cC]),cC]
   exact⟨_,rfl,hK⟩
  ·rename_i kd z hu
   refine rdOk_c h mkI_ok fun K hK=>?_
   simp only[ev,opd_c hS hu (by simp [cC]),cC]
   rw[show cC X.roots (mkI kd (iNeg kd z))=.lf (.int kd (kd.wrap (0-z))) from mkW_c]at hK
   exact⟨_,rfl,hK⟩
  ·simp at h
 | conv kd x =>
  simp only[rdX]at h
  split at h
  ·rename_i z hz
   obtain⟨k',hx⟩:=intOf_sim hS hz
   refine rdOk_c h mkI_ok fun K hK=>?_
   rw[show cC X.roots (mkI kd (iConv kd z))=.lf (.int kd (kd.wrap z)) from mkW_c]at hK
   simp only[ev,hx];exact hK
  ·simp at h
 | b2s x =>
  have hok:=opd_okV hX x
  simp only[rdX]at h
  split at h
  ·rename_i s hx
   refine rdOk_c h trivial fun K hK=>?_
   simp only[ev,opd_c hS hx (by simp [cC]),cC]
   exact hK
  ·rename_i c hc hx
   rw[hx]at hok
   obtain⟨t,ws,r,p,lo,l,h1,h2,h3,h4,h5,h6⟩:=winX_some hok h
   split at h1
   ·refine rdOk_c h1 trivial fun K hK=>?_
    have hxS:=opd_c hS hx (by rw[h3];simp)
    rw[h3]at hxS
    simp only[ev,hxS,Ty.n]
    refine⟨_, ?_,hK⟩
    rw[node_eq,node_sim hS h4]
    simp only[Option.bind_some,h5,if_true,h6]
    exact bytesOf_enc _
   ·simp at h1
  ·simp at h
 | slc z0 x lo hi =>
  simp only[rdX]at h
  split at h
  ·rename_i c xl xh hx hl hh;exact slcX_ok hX hS hx hl hh h
  ·simp at h
 | ssl x lo hi =>
  simp only[rdX]at h
  split at h
  ·rename_i l xl xh hx hl hh
   split at h
   ·rename_i hs
    obtain⟨h1,h2⟩:=chk_some h
    have h1:=within_some h1
    have hs':(lo.isSome||hi.isSome)=true:=by
     rcases mbI_sim hS hl with ⟨rfl,rfl⟩|⟨_,_,rfl,e⟩<;>rcases mbI_sim hS hh with ⟨rfl,rfl⟩|⟨_,_,rfl,e'⟩
     ·simp at hs
     ·cases hi with
      | none=>simp at e'
      | some _=>rfl
     ·cases lo with
      | none=>simp at e
      | some _=>rfl
     ·cases lo with
      | none=>simp at e
      | some _=>rfl
    simp only[st0_eq]at h2
    refine rdOk_c h2 trivial fun K hK=>?_
    exact ev_ssl (opd_c hS hx (by simp [cC])) (mbI_sim hS hl) (mbI_sim hS hh) hs' h1 hK
   ·simp at h
  ·simp at h
 | fld off n x =>
  have hok:=opd_okV hX x
  have hsim:=opd_sim hS x
  simp only[rdX]at h
  split at h
  ·rename_i cs hx
   rw[hx]at hok hsim
   have:∃ys,S.opd x=.a (.ag ys)/\All2 WkC ys (cs.map (cC X.roots)):=by
    cases hq:S.opd x with
    | a z=>cases z with
     | ag ys=>rw[hq]at hsim;exact⟨ys,rfl,hsim⟩
     | c _=>rw[hq]at hsim;exact hsim.elim
    | _=>rw[hq]at hsim;exact hsim.elim
   obtain⟨ys,e1,e2⟩:=this
   split at h
   ·split at h
    ·rename_i y hy
     obtain⟨z,z1,z2⟩:=wk_get (i:=off) (x:=cC X.roots y) e2 (by rw[List.getElem?_map,hy];rfl)
     refine⟨_,h,hok y (List.mem_of_getElem? hy),.a (.c z),z2,fun K hK=>?_⟩
     simp only[ev,e1]
     exact⟨z,z1,hK⟩
    ·simp at h
   ·rename_i m
    split at h
    ·rename_i hm
     have hm:=Nat.le_of_ble_eq_true hm
     refine⟨_,h,fun c hc=>hok c (List.mem_of_mem_drop (List.mem_of_mem_take hc)),.a (.ag ((ys.drop off).take m)), ?_,fun K hK=>?_⟩
     ·simp only[cV,cA,WkV,WkA,List.map_take,List.map_drop]
      exact wk_take (wk_drop e2)
     ·simp only[ev,e1]
      have:=e2.length
      simp only[List.length_map]at this
      exact⟨by omega,hK⟩
    ·simp at h
  ·simp at h
 | fad off x =>
  have hok:=opd_okV hX x
  simp only[rdX]at h
  split at h
  ·rename_i r v p i c t e hx
   rw[hx]at hok
   split at h
   ·rename_i hv
    refine rdOk_c h hok fun K hK=>?_
    have hxS:S.opd x=.a (.c (.pe r p i c)):=by rw[opd_c hS hx (by simp [cC,hv])];simp only[cC,hv]
    simp only[cC,hv]at hK
    simp only[ev,hxS];exact hK
   ·simp at h
  ·rename_i r c hx
   rw[hx]at hok
   split at h
   ·rename_i s cs hr
    refine rdOk_c h hok fun K hK=>?_
    have hxS:S.opd x=.a (.c (.pb r c)):=by rw[opd_c hS hx (by simp [cC,hr])];simp only[cC,hr]
    simp only[cC,hr]at hK
    simp only[ev,hxS];exact hK
   ·simp at h
  ·rename_i b o hx
   refine rdOk_c h trivial fun K hK=>?_
   have hxS:S.opd x=.a (.c (.lf (.pointer (some ⟨b,o,none⟩)))):=by rw[opd_c hS hx (by simp [cC])];rfl
   simp only[ev,hxS];exact hK
  ·simp at h
 | iad sz x j =>
  simp only[rdX]at h
  split at h
  ·rename_i c z hx hj;exact iadX_ok hX hS hx hj h
  ·simp at h
 | iaa len sz x j =>
  have hok:=opd_okV hX x
  simp only[rdX]at h
  split at h
  ·rename_i r c z hx hj
   rw[hx]at hok
   obtain⟨kd,J⟩:=intOf_sim hS hj
   split at h
   ·rename_i s cs hr
    obtain⟨h1,h⟩:=chk_some h
    obtain⟨h2,h⟩:=chk_some h
    simp only[iLe,iLt,decide_eq_true_eq,Int.ofNat_eq_natCast]at h1 h2
    refine rdOk_c h hok fun K hK=>?_
    have hxS:S.opd x=.a (.c (.pb r c)):=by rw[opd_c hS hx (by simp [cC,hr])];simp only[cC,hr]
    simp only[cC,hr]at hK
    simp only[ev,hxS,J]
    exact⟨⟨h1,h2⟩,hK⟩
   ·simp at h
  ·rename_i b o z hx hj
   obtain⟨kd,J⟩:=intOf_sim hS hj
   obtain⟨h1,h⟩:=chk_some h
   obtain⟨h2,h⟩:=chk_some h
   simp only[iLe,iLt,decide_eq_true_eq,Int.ofNat_eq_natCast]at h1 h2
   refine rdOk_c h trivial fun K hK=>?_
   have hxS:S.opd x=.a (.c (.lf (.pointer (some ⟨b,o,none⟩)))):=by rw[opd_c hS hx (by simp [cC])];rfl
   simp only[ev,hxS,J]
   exact⟨⟨h1,h2⟩,hK⟩
  ·simp at h
 | idx x j =>
  simp only[rdX]at h
  split at h
  ·rename_i l z hx hj
   obtain⟨kd,J⟩:=intOf_sim hS hj
   obtain⟨b,h1,h⟩:=bnd_some h
   obtain⟨h0,h1⟩:=idx_some h1
   refine rdOk_c h trivial fun K hK=>?_
   simp only[ev,opd_c hS hx (by simp [cC]),cC,J]
   exact⟨h0,b,by rw[str_get];exact h1,hK⟩
  ·simp at h
 | ixa len n sz x j =>
  cases n with
  | some m=>simp [rdX]at h
  | none =>
   have hsim:=opd_sim hS x
   simp only[rdX]at h
   split at h
   ·rename_i cs z hx hj
    rw[hx]at hsim
    obtain⟨kd,J⟩:=intOf_sim hS hj
    split at h
    ·rename_i l hl hb
     simp only[Bool.and_eq_true]at hb
     have hb1:=Nat.eq_of_beq_eq_true hb.1
     have hb2:=Nat.eq_of_beq_eq_true hb.2
     subst hb2
     obtain⟨e,h1,h⟩:=bnd_some h
     obtain⟨h0,h1⟩:=idx_some h1
     have:∃ys,S.opd x=.a (.ag ys)/\All2 WkC ys (cs.map (cC X.roots)):=by
      cases hq:S.opd x with
      | a z=>cases z with
       | ag ys=>rw[hq]at hsim;exact⟨ys,rfl,hsim⟩
       | c _=>rw[hq]at hsim;exact hsim.elim
      | _=>rw[hq]at hsim;exact hsim.elim
     obtain⟨ys,e1,e2⟩:=this
     have hcs:=ints_ok (R:=X.roots) hl
     have hlen:l.length=cs.length:=by have:=congrArg List.length hcs;simpa using this.symm
     have hlt:=(List.getElem?_eq_some_iff.1 h1).1
     obtain⟨y,y1,y2⟩:=wk_get (i:=z.toNat) (x:=C.lf (.int .i64 e)) e2 (by rw[hcs,List.getElem?_map,h1];rfl)
     have y3:=y2.eq (by simp)
     subst y3
     refine rdOk_c h trivial fun K hK=>?_
     simp only[ev,e1,J]
     exact⟨⟨h0,by omega⟩,_,by rw[Nat.mul_one];exact y1,hK⟩
    ·simp at h
   ·simp at h
 | ext n x =>
  have hok:=opd_okV hX x
  have hsim:=opd_sim hS x
  simp only[rdX]at h
  split at h
  ·rename_i xs hx
   rw[hx]at hok hsim
   split at h
   ·rename_i y hy
    have:∃ys,S.opd x=.tp ys/\All2 WkA ys (xs.map (cA X.roots)):=by
     cases hq:S.opd x with
     | tp ys=>rw[hq]at hsim;exact⟨ys,rfl,hsim⟩
     | _=>rw[hq]at hsim;exact hsim.elim
    obtain⟨ys,e1,e2⟩:=this
    obtain⟨z,z1,z2⟩:=wkA_get (i:=n) (x:=cA X.roots y) e2 (by rw[List.getElem?_map,hy];rfl)
    refine⟨_,h,hok y (List.mem_of_getElem? hy),.a z,z2,fun K hK=>?_⟩
    simp only[ev,e1]
    exact⟨z,z1,hK⟩
   ·simp at h
  ·simp at h
 | len x =>
  simp only[rdX]at h
  split at h
  ·rename_i c hx;exact lenX_ok hX hS hx h
  ·simp at h
 | sid x =>
  simp only[rdX]at h
  split at h
  ·rename_i l hx
   refine rdOk_c h trivial fun K hK=>?_
   simp only[ev,opd_c hS hx (by simp [cC]),cC];exact hK
  ·simp at h
 | sln x =>
  simp only[rdX]at h
  split at h
  ·rename_i l hx
   refine rdOk_c h trivial fun K hK=>?_
   simp only[ev,opd_c hS hx (by simp [cC]),cC];exact hK
  ·simp at h
 | build zero parts =>
  simp only[rdX]at h
  split at h
  ·rename_i hz
   split at h
   ·rename_i cs hf
    obtain⟨zs,e1,e2,e3⟩:=fill_sim hX hS parts _ zero cs (ofCs_wk X.roots hz) (by
     intro c hc
     obtain⟨c',_,rfl⟩:=List.mem_map.1 hc
     exact ofC_ok _ _ _ c') hf
    refine⟨_,h,e3,.a (.ag zs),e2,fun K hK=>?_⟩
    simp only[ev]
    exact⟨zs,e1,hK⟩
   ·simp at h
  ·simp at h
 | mkf f caps =>
  simp only[rdX]at h
  split at h
  ·rename_i cs hq
   obtain⟨ys,e1,e2,e3⟩:=asX_ok hX hS caps cs hq
   exact⟨_,h,e3,.fn f ys,⟨rfl,e2⟩,fun K hK=>⟨ys,e1,hK⟩⟩
  ·cases h
end
end Go.Vs
namespace Go.Vs
variable [Glb]
def XSt.put (X:XSt) (d:Option Nat) (v:XV):XSt:=match d with
 | some d=>⟨(d,X.stamp,v)::X.env,X.roots,X.next,X.stamp+1,X.fix⟩
 | none=>X
def XSt.newR (X:XSt) (x:XR):XSt:=⟨X.env,(X.next,X.stamp,x)::X.roots,X.next+1,X.stamp+1,X.fix⟩
def XSt.setR (X:XSt) (r:Nat) (x:XR):XSt:=⟨X.env,(r,X.stamp,x)::X.roots,X.next,X.stamp+1,X.fix⟩
def XSt.delRs (X:XSt):List Nat->XSt
 | []=>X
 | r::l=>(X.setR r .gone).delRs l
theorem put_ok {X:XSt}(h:XOk X){d:Option Nat}{v:XV}(hv:okV X.roots X.next X.stamp v):XOk (X.put d v)/\Ext X (X.put d v):=by
 cases d with
 | none=>exact⟨h,Ext.refl X⟩
 | some d =>
  have same:∀r s x,lk X.roots r=some (s,x)->s<X.stamp->lk X.roots r=some (s,x):=fun _ _ _ h _=>h
  refine⟨⟨fun r s x hx=>⟨(h.ids r s x hx).1,Nat.lt_succ_of_lt (h.ids r s x hx).2⟩, ?_, ?_,h.fixle⟩,⟨Nat.le_refl _,Nat.le_succ _,rfl,same, ?_,fun r s cs hl c e hc _=>⟨s,cs,hl,hc⟩⟩⟩
  ·intro t s w hl
   simp only[XSt.put]at hl
   rw[lk_cons]at hl
   split at hl
   ·simp only[Option.some.injEq,Prod.mk.injEq]at hl
    obtain⟨rfl,rfl⟩:=hl
    exact⟨Nat.lt_succ_self _,okV.ext (Nat.le_refl _) (Nat.le_succ _) same hv⟩
   ·obtain⟨a,b⟩:=h.env t s w hl
    exact⟨Nat.lt_succ_of_lt a,okV.ext (Nat.le_refl _) (Nat.le_succ _) same b⟩
  ·intro r s cs hl e he
   obtain⟨a,b⟩:=h.box r s cs hl e he
   exact⟨Nat.lt_succ_of_lt a,okC.ext (Nat.le_refl _) (Nat.le_succ _) same b⟩
  ·intro t s w hl hs
   simp only[XSt.put]at hl
   rw[lk_cons]at hl
   split at hl
   ·simp only[Option.some.injEq,Prod.mk.injEq]at hl
    omega
   ·exact hl
theorem chg_ok {X:XSt}(h:XOk X){r nx:Nat}{x:XR}(hn:X.next<=nx) (hr:r<nx)
  (hb:∀cs,x=.bx cs->∀(c:Nat) (e:Nat×XC),cs[c]? = some e->(e.1=X.stamp\/∃s0 cs0,lk X.roots r=some (s0,.bx cs0)/\cs0[c]? = some e)/\okC X.roots X.next X.stamp e.2) :
  XOk ⟨X.env,(r,X.stamp,x)::X.roots,nx,X.stamp+1,X.fix⟩/\Ext X ⟨X.env,(r,X.stamp,x)::X.roots,nx,X.stamp+1,X.fix⟩:=by
 have old:∀q s y,lk ((r,X.stamp,x)::X.roots) q=some (s,y)->s<X.stamp->lk X.roots q=some (s,y):=by
  intro q s y hl hs
  rw[lk_cons]at hl
  split at hl
  ·simp only[Option.some.injEq,Prod.mk.injEq]at hl;omega
  ·exact hl
 have le:=Nat.le_succ X.stamp
 refine⟨⟨?_, ?_, ?_,Nat.le_trans h.fixle hn⟩,⟨hn,le,rfl,old,fun _ _ _ hl _=>hl, ?_⟩⟩
 ·intro q s y hl
  rw[lk_cons]at hl
  split at hl
  ·rename_i e
   simp only[Option.some.injEq,Prod.mk.injEq]at hl
   simp only at e
   obtain⟨rfl,_⟩:=hl
   exact⟨by show q<nx;omega,Nat.lt_succ_self _⟩
  ·obtain⟨a,b⟩:=h.ids q s y hl
   exact⟨by show q<nx;omega,Nat.lt_succ_of_lt b⟩
 ·intro t s w hl
  obtain⟨a,b⟩:=h.env t s w hl
  exact⟨Nat.lt_succ_of_lt a,okV.ext hn le old b⟩
 ·intro q s cs hl e he
  rw[lk_cons]at hl
  split at hl
  ·simp only[Option.some.injEq,Prod.mk.injEq]at hl
   obtain⟨c,hc,he'⟩:=List.getElem_of_mem he
   obtain⟨a,b⟩:=hb cs hl.2 c e (by rw[List.getElem?_eq_getElem hc,he'])
   refine⟨?_,okC.ext hn le old b⟩
   rcases a with a|⟨s0,cs0,a1,a2⟩
   ·rw[a];exact Nat.lt_succ_self _
   ·exact Nat.lt_succ_of_lt (h.box _ _ _ a1 e (List.mem_of_getElem? a2)).1
  ·obtain⟨a,b⟩:=h.box q s cs hl e he
   exact⟨Nat.lt_succ_of_lt a,okC.ext hn le old b⟩
 ·intro q s cs hl c e hc hs
  rw[lk_cons]at hl
  split at hl
  ·rename_i eq
   simp only at eq
   subst eq
   simp only[Option.some.injEq,Prod.mk.injEq]at hl
   rcases (hb cs hl.2 c e hc).1 with a|a
   ·omega
   ·exact a
  ·exact⟨s,cs,hl,hc⟩
theorem killCs_un:∀ks:List (Nat×Path),killCs ks .un=.un
 | []=>rfl
 | k::ks=>killCs_un ks
theorem wkC_map {κ:C->C}(hκ:κ .un=.un){y x x':C}(h:WkC y x) (hx:x'=.un\/x'=κ x):WkC (κ y) x':=by
 rcases hx with hx|hx
 ·exact .inr hx
 ·rcases h with rfl|rfl
  ·exact .inl hx
  ·exact .inr (by rw[hx,hκ])
section
variable {X X':XSt} {S:St} {ks:List (Nat×Path)} {roots:List (Nat×Root)}
section
variable {κ:C->C} {R R':XRs} {nx st:Nat}
theorem wkCs_map (hκ:κ .un=.un) (hc:∀c,okC R nx st c->cC R' c=.un\/cC R' c=κ (cC R c)):∀{ys:List C}{cs:List XC},(∀c∈cs,okC R nx st c)->All2 WkC ys (cs.map (cC R))->All2 WkC (ys.map κ) (cs.map (cC R'))
 | [],[],_,_=>trivial
 | y::ys,c::cs,ho,h=>⟨wkC_map hκ h.1 (hc c (ho c List.mem_cons_self)),wkCs_map hκ hc (fun c hc=>ho c (List.mem_cons_of_mem _ hc)) h.2⟩
 | [],_::_,_,h=>h.elim
 | _::_,[],_,h=>h.elim
theorem wkA_map (hκ:κ .un=.un) (hc:∀c,okC R nx st c->cC R' c=.un\/cC R' c=κ (cC R c)){y:A}{x:XA}(ho:okA R nx st x) (h:WkA y (cA R x)):WkA (y.map κ) (cA R' x):=by
 cases x with
 | c x=>cases y with
  | c y=>exact wkC_map hκ h (hc x ho)
  | ag _=>exact h.elim
 | ag xs=>cases y with
  | c y=>exact h.elim
  | ag ys=>exact wkCs_map hκ hc ho h
theorem wkAs_map (hκ:κ .un=.un) (hc:∀c,okC R nx st c->cC R' c=.un\/cC R' c=κ (cC R c)):∀{ys:List A}{xs:List XA},(∀x∈xs,okA R nx st x)->All2 WkA ys (xs.map (cA R))->All2 WkA (ys.map (A.map κ)) (xs.map (cA R'))
 | [],[],_,_=>trivial
 | y::ys,c::cs,ho,h=>⟨wkA_map hκ hc (ho c List.mem_cons_self) h.1,wkAs_map hκ hc (fun c hc=>ho c (List.mem_cons_of_mem _ hc)) h.2⟩
 | [],_::_,_,h=>h.elim
 | _::_,[],_,h=>h.elim
theorem wkV_map (hκ:κ .un=.un) (hc:∀c,okC R nx st c->cC R' c=.un\/cC R' c=κ (cC R c)){y:V}{x:XV}(ho:okV R nx st x) (h:WkV y (cV R x)):WkV (y.map κ) (cV R' x):=by
 cases x with
 | un=>cases y<;>trivial
 | a x=>cases y with
  | a y=>exact wkA_map hκ hc ho h
  | _=>exact h.elim
 | tp xs=>cases y with
  | tp ys=>exact wkAs_map hκ hc ho h
  | _=>exact h.elim
 | fn f xs=>cases y with
  | fn g cs =>
   obtain⟨rfl,h⟩:=h
   exact⟨rfl,wkAs_map hκ hc ho h⟩
  | _=>exact h.elim
 | sb r n =>
  simp only[cV]
  split
  ·rename_i s cs hl
   have h1:cC R' (.pb r 0)=.pb r 0:=by simp only[cC,hl]
   rcases hc (.pb r 0) ho with h2|h2
   ·rw[h1]at h2;simp at h2
   ·rw[h1]at h2
    have h3:cC R (.pb r 0)=.pb r 0:=by
     simp only[cC]at h2 ⊢
     split at h2
     ·rfl
     ·rw[hκ]at h2;simp at h2
    have h4:cV R (.sb r n)=.sb r n:=by
     simp only[cC]at h3
     simp only[cV]
     split at h3
     ·rfl
     ·simp at h3
    rw[h4]at h
    rw[h3]at h2
    cases y with
    | sb r' n' =>
     obtain⟨rfl,rfl⟩:=h
     simp only[V.map,<-h2]
     exact⟨rfl,rfl⟩
    | _=>exact h.elim
  ·cases y<;>trivial
end
theorem wkCs_kill {R R':XRs}{nx st:Nat}(hc:∀c,okC R nx st c->cC R' c=.un\/cC R' c=killCs ks (cC R c)){ys:List C}{cs:List XC}(ho:∀c∈cs,okC R nx st c) (h:All2 WkC ys (cs.map (cC R))):All2 WkC (ys.map (killCs ks)) (cs.map (cC R')):=wkCs_map (killCs_un ks) hc ho h
theorem wkV_kill {R R':XRs}{nx st:Nat}(hc:∀c,okC R nx st c->cC R' c=.un\/cC R' c=killCs ks (cC R c)){y:V}{x:XV}(ho:okV R nx st x) (h:WkV y (cV R x)):WkV (y.map (killCs ks)) (cV R' x):=wkV_map (killCs_un ks) hc ho h
theorem sim_step (hX:XOk X) (hS:SimX X S) (he:X'.env=X.env) (hf:X'.fix=X.fix) (hc:∀c,okC X.roots X.next X.stamp c->cC X'.roots c=.un\/cC X'.roots c=killCs ks (cC X.roots c))
  (hr:∀r s x,lk X'.roots r=some (s,x)->(lk X.roots r=some (s,x)/\get roots r=(get S.roots r).map (Root.map (killCs ks)))\/∀y,cRt X'.roots x=some y->∃y',get roots r=some y'/\WkR y' y) :
  SimX X' ⟨killEnv ks S.env,roots,X'.next,S.fix⟩:=by
 refine⟨rfl,by rw[hf];exact hS.fix, ?_, ?_⟩
 ·intro t s v hl
  rw[he]at hl
  rcases hS.env t s v hl with h|⟨y,h1,h2⟩
  ·exact .inl h
  ·exact .inr ⟨_,by rw[get_killEnv,h1];rfl,wkV_kill hc (hX.env t s v hl).2 h2⟩
 ·intro r s x hl y hy
  rcases hr r s x hl with ⟨h1,h2⟩|h
  ·cases x with
   | tr t xs =>
    obtain⟨y',a,b⟩:=hS.roots r s _ h1 _ rfl
    simp only[cRt,Option.some.injEq]at hy;subst hy
    cases y' with
    | tr _ _=>exact⟨_,by rw[h2,a];rfl,b⟩
    | _=>exact b.elim
   | im t xs =>
    obtain⟨y',a,b⟩:=hS.roots r s _ h1 _ rfl
    simp only[cRt,Option.some.injEq]at hy;subst hy
    cases y' with
    | im _ _=>exact⟨_,by rw[h2,a];rfl,b⟩
    | _=>exact b.elim
   | bx cs =>
    obtain⟨y',a,b⟩:=hS.roots r s _ h1 _ rfl
    simp only[cRt,Option.some.injEq]at hy;subst hy
    cases y' with
    | bx ys =>
     refine⟨_,by rw[h2,a];rfl, ?_⟩
     have:cs.map (fun e=>cC X'.roots e.2)=(cs.map (·.2)).map (cC X'.roots):=by simp
     rw[this]
     refine wkCs_kill hc ?_ ?_
     ·intro c hc
      obtain⟨e,he,rfl⟩:=List.mem_map.1 hc
      exact (hX.box r s cs h1 e he).2
     ·rw[List.map_map];exact b
    | _=>exact b.elim
   | gone=>simp [cRt]at hy
  ·exact h y hy
theorem rmap_nil (x:Root):Root.map (killCs []) x=x:=by
 have:killCs []=fun c=>c:=by funext c;rfl
 rw[this,Root.map_id]
theorem omap_nil (x:Option Root):x.map (Root.map (killCs []))=x:=by cases x<;>simp [rmap_nil]
theorem cC_cons {R:XRs}{nx st r:Nat}{x:XR}(hx:nx<=r\/x=.gone\/(∃cs cs0 s,x=.bx cs/\lk R r=some (s,.bx cs0))\/∃t xs xs0 s,x=.tr t xs/\lk R r=some (s,.tr t xs0)/\xs.length=xs0.length){c:XC}(ho:okC R nx st c):cC ((r,st,x)::R) c=.un\/cC ((r,st,x)::R) c=cC R c:=by
 have hne:∀{q:Nat},r≠q->lk ((r,st,x)::R) q=lk R q:=fun h=>by rw[lk_cons,if_neg h]
 have heq:lk ((r,st,x)::R) r=some (st,x):=by rw[lk_cons,if_pos rfl]
 cases c with
 | rw q =>
  by_cases h:r=q
  ·subst h
   rcases hx with h|rfl|⟨cs,cs0,s0,rfl,h0⟩|⟨t,xs,xs0,s,rfl,h1,h2⟩
   ·simp only[okC]at ho;omega
   ·left;simp only[cC,heq]
   ·left;simp only[cC,heq]
   ·right;simp only[cC,heq,h1,h2]
  ·right;simp only[cC,hne h]
 | rv q lo n =>
  by_cases h:r=q
  ·subst h
   rcases hx with h|rfl|⟨cs,cs0,s0,rfl,h0⟩|⟨t,xs,xs0,s,rfl,h1,h2⟩
   ·simp only[okC]at ho;omega
   ·left;simp only[cC,heq]
   ·left;simp only[cC,heq]
   ·right;simp only[cC,heq,h1]
  ·right;simp only[cC,hne h]
 | rf q v p lo t ws =>
  by_cases h:r=q
  ·subst h
   left
   have:verOk ((r,st,x)::R) r v=false:=by
    simp only[verOk,heq]
    cases hb:Nat.beq st v with
    | false=>rfl
    | true=>have:=Nat.eq_of_beq_eq_true hb;have:=ho.2.1;omega
   simp only[cC,this]
  ·right;simp only[cC,verOk,hne h]
 | pe q v p i c t y =>
  by_cases h:r=q
  ·subst h
   left
   have:verOk ((r,st,x)::R) r v=false:=by
    simp only[verOk,heq]
    cases hb:Nat.beq st v with
    | false=>rfl
    | true=>have:=Nat.eq_of_beq_eq_true hb;have:=ho.2.1;omega
   simp only[cC,this]
  ·right;simp only[cC,verOk,hne h]
 | pb q c =>
  by_cases h:r=q
  ·subst h
   rcases hx with h|rfl|⟨cs,cs0,s0,rfl,h0⟩|⟨t,xs,xs0,s,rfl,h1,h2⟩
   ·simp only[okC]at ho;omega
   ·left;simp only[cC,heq]
   ·right;simp only[cC,heq,h0]
   ·left;simp only[cC,heq]
  ·right;simp only[cC,hne h]
 | _=>right;rfl
end
end Go.Vs
namespace Go.Vs
variable [Glb]
def posW (lo n:Nat):Bool:=decide (lo=0\/0<n)
def castL {β:Type}(t t':Ty) (ws:List t.den) (f:List t'.den->Option β):Option β:=if h:t=t' then f (h ▸ ws) else none
def sliceX {β:Type}(R:XRs) (t:Ty) (c:XC) (f:List t.den->Option β):Option β:=match c with
 | .nl n=>match Nat.beq n t.n with
  | true=>f []
  | false=>none
 | .rw r=>winX R (.rw r) fun t' ws=>castL t' t ws f
 | .rv r lo n=>chk (posW lo n) (winX R (.rv r lo n) fun t' ws=>castL t' t ws f)
 | .rf r v p lo t' ws=>chk (posW lo ws.length) (winX R (.rf r v p lo t' ws) fun t' ws=>castL t' t ws f)
 | _=>none
def readT {β:Type}(R:XRs):(t:Ty)->List XC->(t.den->List XC->Option β)->Option β
 | .I k,c::cs,f=>match toI c with
  | some (k',z)=>match kEq k k' with
   | true=>f z cs
   | false=>none
  | none=>none
 | .Y,c::cs,f=>match c with
  | .y b=>f b cs
  | _=>none
 | .B,c::cs,f=>match c with
  | .b x=>f x cs
  | _=>none
 | .S,c::cs,f=>match c with
  | .s l=>f l cs
  | _=>none
 | .L t,c::cs,f=>sliceX R t c fun ws=>f ws cs
 | .P a b,cs,f=>readT R a cs fun x cs=>readT R b cs fun y cs=>f (x,y) cs
 | _,[],_=>none
def readN {β:Type}(R:XRs) (t:Ty):Nat->List XC->(List t.den->Option β)->Option β
 | 0,cs,f=>match cs with
  | []=>f []
  | _=>none
 | n+1,cs,f=>readT R t cs fun x cs=>readN R t n cs fun xs=>f (x::xs)
def CD (R:XRs) (c:XC) (d:D):Prop :=
 (∃v,cC R c=.lf v/\d=.lf v)\/(∃n,c=.nl n/\d=.sl n []) \/
 ∃(t:Ty) (ws:List t.den) (r:Nat) (p:Path) (lo:Nat) (l:List (List D)),cC R c=.rf r p t.n lo ws.length/\nodeX R r p=some (t.n,l)/\lo+ws.length<=l.length/\(l.drop lo).take ws.length=ws.map (encT t)/\d=.sl t.n (ws.map (encT t))/\(lo=0\/0<ws.length)
theorem CD.ne {R:XRs}{c:XC}{d:D}(h:CD R c d):cC R c≠.un:=by
 rcases h with ⟨v,h,_⟩|⟨n,h,_⟩|⟨t,ws,r,p,lo,l,h,_⟩
 ·rw[h];simp
 ·rw[h];simp [cC]
 ·rw[h];simp
theorem cast_some {β:Type}{t t':Ty}{ws:List t.den}{f:List t'.den->Option β}{out:β}(h:castL t t' ws f=some out):∃ws':List t'.den,f ws'=some out/\t=t'/\ws.map (encT t)=ws'.map (encT t')/\ws'.length=ws.length:=by
 unfold castL at h
 split at h
 ·rename_i e
  subst e
  exact⟨ws,h,rfl,rfl,rfl⟩
 ·simp at h
theorem sliceX_ok {β:Type}{R:XRs}{nx st:Nat}{t:Ty}{c:XC}{f:List t.den->Option β}{out:β}(ho:okC R nx st c) (h:sliceX R t c f=some out):∃ws,f ws=some out/\CD R c (.sl t.n (ws.map (encT t))):=by
 have win:∀{c:XC},okC R nx st c->winX R c (fun t' ws=>castL t' t ws f)=some out->(∀r p s lo n,cC R c=.rf r p s lo n->lo=0\/0<n)->∃ws,f ws=some out/\CD R c (.sl t.n (ws.map (encT t))):=by
  intro c ho h hp
  obtain⟨t',ws,r,p,lo,l,h1,h2,h3,h4,h5,h6⟩:=winX_some ho h
  obtain⟨ws',g1,rfl,g3,g4⟩:=cast_some h1
  refine⟨ws',g1,.inr (.inr ⟨t',ws',r,p,lo,l,by rw[g4];exact h3,h4,by rw[g4];exact h5,by rw[g4,h6,g3],rfl,by rw[g4];exact hp _ _ _ _ _ h3⟩)⟩
 unfold sliceX at h
 split at h
 ·split at h
  ·rename_i n hn
   have hn:=Nat.eq_of_beq_eq_true hn
   subst hn
   exact⟨[],h,.inr (.inl ⟨_,rfl,rfl⟩)⟩
  ·simp at h
 ·rename_i r
  refine win ho h ?_
  intro r' p s lo n e
  simp only[cC]at e
  split at e
  ·simp only[C.rf.injEq]at e;exact .inl e.2.2.2.1.symm
  ·simp only[C.rf.injEq]at e;exact .inl e.2.2.2.1.symm
  ·simp at e
 ·rename_i r lo n
  obtain⟨h1,h⟩:=chk_some h
  refine win ho h ?_
  intro r' p s lo' n' e
  simp only[posW,decide_eq_true_eq]at h1
  simp only[cC]at e
  split at e
  ·simp only[C.rf.injEq]at e;obtain⟨_,_,_,rfl,rfl⟩:=e;exact h1
  ·simp only[C.rf.injEq]at e;obtain⟨_,_,_,rfl,rfl⟩:=e;exact h1
  ·simp at e
 ·rename_i r v p lo t' ws
  obtain⟨h1,h⟩:=chk_some h
  refine win ho h ?_
  intro r' p s lo' n' e
  simp only[posW,decide_eq_true_eq]at h1
  simp only[cC]at e
  split at e
  ·simp only[C.rf.injEq]at e;obtain⟨_,_,_,rfl,rfl⟩:=e;exact h1
  ·simp at e
 ·simp at h
theorem readT_ok {β:Type}{R:XRs}{nx st:Nat}:∀(t:Ty) (cs:List XC) (f:t.den->List XC->Option β) (out:β),(∀c∈cs,okC R nx st c)->readT R t cs f=some out ->
  ∃x cs0 rest,cs=cs0++rest/\f x rest=some out/\All2 (CD R) cs0 (encT t x)
 | .I k,c::cs,f,out,ho,h=>by
  simp only[readT]at h
  split at h
  ·rename_i k' z hz
   split at h
   ·rename_i hk
    simp only[kEq,decide_eq_true_eq]at hk
    subst hk
    exact⟨z,[c],cs,rfl,h,⟨.inl ⟨_,toI_c hz,rfl⟩,trivial⟩⟩
   ·simp at h
  ·simp at h
 | .Y,c::cs,f,out,ho,h=>by
  simp only[readT]at h
  split at h
  ·rename_i b;exact⟨b,[_],cs,rfl,h,⟨.inl ⟨_,rfl,rfl⟩,trivial⟩⟩
  ·simp at h
 | .B,c::cs,f,out,ho,h=>by
  simp only[readT]at h
  split at h
  ·rename_i b;exact⟨b,[_],cs,rfl,h,⟨.inl ⟨_,rfl,rfl⟩,trivial⟩⟩
  ·simp at h
 | .S,c::cs,f,out,ho,h=>by
  simp only[readT]at h
  split at h
  ·rename_i b;exact⟨b,[_],cs,rfl,h,⟨.inl ⟨_,rfl,rfl⟩,trivial⟩⟩
  ·simp at h
 | .L t,c::cs,f,out,ho,h=>by
  simp only[readT]at h
  obtain⟨ws,h1,h2⟩:=sliceX_ok (ho c List.mem_cons_self) h
  exact⟨ws,[c],cs,rfl,h1,⟨h2,trivial⟩⟩
 | .P a b,cs,f,out,ho,h=>by
  simp only[readT]at h
  obtain⟨x,c0,c1,rfl,h1,h2⟩:=readT_ok a cs _ out ho h
  obtain⟨y,d0,d1,rfl,h3,h4⟩:=readT_ok b c1 _ out (fun c hc=>ho c (List.mem_append_right _ hc)) h1
  exact⟨(x,y),c0++d0,d1,by simp,h3,All2.append h2 h4⟩
 | .I _,[],_,_,_,h=>by simp [readT]at h
 | .Y,[],_,_,_,h=>by simp [readT]at h
 | .B,[],_,_,_,h=>by simp [readT]at h
 | .S,[],_,_,_,h=>by simp [readT]at h
 | .L _,[],_,_,_,h=>by simp [readT]at h
theorem readN_ok {β:Type}{R:XRs}{nx st:Nat}{t:Ty}:∀(n:Nat) (cs:List XC) (f:List t.den->Option β) (out:β),(∀c∈cs,okC R nx st c)->readN R t n cs f=some out ->
  ∃xs,f xs=some out/\xs.length=n/\All2 (CD R) cs (xs.map (encT t)).flatten
 | 0,cs,f,out,ho,h=>by
  simp only[readN]at h
  split at h
  ·exact⟨[],h,rfl,trivial⟩
  ·simp at h
 | n+1,cs,f,out,ho,h=>by
  simp only[readN]at h
  obtain⟨x,c0,c1,rfl,h1,h2⟩:=readT_ok t cs _ out ho h
  obtain⟨xs,h3,h4,h5⟩:=readN_ok n c1 _ out (fun c hc=>ho c (List.mem_append_right _ hc)) h1
  refine⟨x::xs,h3,by simp [h4], ?_⟩
  simp only[List.map_cons,List.flatten_cons]
  exact All2.append h2 h5
theorem cd_known {R:XRs}:∀{cs:List XC}{ds:List D}{ys:List C},All2 (CD R) cs ds->All2 WkC ys (cs.map (cC R))->ys=cs.map (cC R)
 | [],[],[],_,_=>rfl
 | c::cs,d::ds,y::ys,h,hw=>by
  simp only[List.map_cons]
  rw[<-cd_known h.2 hw.2,hw.1.eq h.1.ne]
 | [],_::_,_,h,_=>h.elim
 | _::_,[],_,h,_=>h.elim
 | [],[],_::_,_,h=>h.elim
 | _::_,_::_,[],_,h=>h.elim
def ownX (R:XRs) (c:XC):Option (Option Nat):=match c with
 | .nl _=>some none
 | .lf _=>some none
 | .i _ _=>some none
 | .y _=>some none
 | .b _=>some none
 | .s _=>some none
 | .rw r=>match lk R r with
  | some (_,.tr _ _)=>some (some r)
  | _=>none
 | .rv r lo _=>match lk R r with
  | some (_,.tr _ _)=>match lo with
   | 0=>some (some r)
   | _=>none
  | _=>none
 | _=>none
def ownIds (R:XRs):List XC->Option (List Nat)
 | []=>some []
 | c::cs=>match ownX R c,ownIds R cs with
  | some (some r),some l=>some (r::l)
  | some none,some l=>some l
  | _,_=>none
def hasN (r:Nat):List Nat->Bool
 | []=>false
 | x::l=>match Nat.beq x r with
  | true=>true
  | false=>hasN r l
def nodupN:List Nat->Bool
 | []=>true
 | r::l=>match hasN r l with
  | true=>false
  | false=>nodupN l
theorem hasN_mem {r:Nat}:∀{l:List Nat},hasN r l=true ↔ r∈l
 | []=>by simp [hasN]
 | x::l=>by
  simp only[hasN]
  split
  ·rename_i h;simp [Nat.eq_of_beq_eq_true h]
  ·rename_i h
   have:=Nat.ne_of_beq_eq_false h
   rw[hasN_mem,List.mem_cons]
   exact⟨.inr,fun h=>h.resolve_left fun e=>this e.symm⟩
theorem nodupN_ok:∀{l:List Nat},nodupN l=true->l.Nodup
 | [],_=>List.nodup_nil
 | r::l,h=>by
  simp only[nodupN]at h
  split at h
  ·simp at h
  ·rename_i hn
   rw[List.nodup_cons]
   exact⟨fun hm=>by rw[hasN_mem.2 hm]at hn;simp at hn,nodupN_ok h⟩
theorem cutR_nil (roots:List (Nat×Root)) (r:Nat):cutR roots r []=del roots r:=rfl
theorem own_take {X:XSt}{S:St}(hS:SimX X S){c:XC}{d:D}(h:CD X.roots c d){o:Option Nat}(ho:ownX X.roots c=some o){roots:List (Nat×Root)}(hr:∀r,o=some r->get roots r=get S.roots r) :
  takeC roots (cC X.roots c)=some (d,delO roots o):=by
 have leaf:∀{v:Value},cC X.roots c=.lf v->o=none->takeC roots (cC X.roots c)=some (d,delO roots o):=by
  intro v hv e
  subst e
  rcases h with ⟨v',h1,rfl⟩|⟨n,rfl,_⟩|⟨t,ws,r,p,lo,l,h1,_⟩
  ·rw[h1];rfl
  ·simp [cC]at hv
  ·rw[hv]at h1;simp at h1
 cases c with
 | nl n =>
  simp only[ownX,Option.some.injEq]at ho;subst ho
  rcases h with ⟨v,h1,_⟩|⟨m,h1,rfl⟩|⟨t,ws,r,p,lo,l,h1,_⟩
  ·simp [cC]at h1
  ·simp only[XC.nl.injEq]at h1;subst h1;rfl
  ·simp [cC]at h1
 | lf v=>simp only[ownX,Option.some.injEq]at ho;exact leaf rfl ho.symm
 | i k z=>simp only[ownX,Option.some.injEq]at ho;exact leaf rfl ho.symm
 | y b=>simp only[ownX,Option.some.injEq]at ho;exact leaf rfl ho.symm
 | b x=>simp only[ownX,Option.some.injEq]at ho;exact leaf rfl ho.symm
 | s l=>simp only[ownX,Option.some.injEq]at ho;exact leaf rfl ho.symm
 | rw r =>
  simp only[ownX]at ho
  split at ho
  ·rename_i s t xs hl
   simp only[Option.some.injEq]at ho;subst ho
   obtain⟨y,a,b⟩:=hS.roots r s _ hl _ rfl
   have hg:get roots r=some (.tr t.n (xs.map (encT t))):=by
    rw[hr r rfl,a]
    cases y with
    | tr _ _=>obtain⟨rfl,rfl⟩:=b;rfl
    | _=>exact b.elim
   rcases h with ⟨v,h1,_⟩|⟨m,h1,_⟩|⟨t',ws,r',p,lo,l,h1,h2,h3,h4,rfl,_⟩
   ·simp [cC,hl]at h1
   ·simp at h1
   ·simp only[cC,hl,C.rf.injEq]at h1
    obtain⟨rfl,rfl,e3,rfl,e5⟩:=h1
    simp only[nodeX,hl,nodeAt,Option.some.injEq,Prod.mk.injEq]at h2
    obtain⟨_,rfl⟩:=h2
    simp only[cC,hl,takeC,hg,nodeAt,List.length_map,Nat.le_refl,and_self,if_true,cutR_nil,delO]
    rw[List.drop_zero,<-e5,List.take_of_length_le (by simp)]at h4
    rw[List.take_of_length_le (by simp),<-h4,e3]
  ·simp at ho
 | rv r lo n =>
  simp only[ownX]at ho
  split at ho
  ·rename_i s t xs hl
   split at ho
   ·simp only[Option.some.injEq]at ho;subst ho
    obtain⟨y,a,b⟩:=hS.roots r s _ hl _ rfl
    have hg:get roots r=some (.tr t.n (xs.map (encT t))):=by
     rw[hr r rfl,a]
     cases y with
     | tr _ _=>obtain⟨rfl,rfl⟩:=b;rfl
     | _=>exact b.elim
    rcases h with ⟨v,h1,_⟩|⟨m,h1,_⟩|⟨t',ws,r',p,lo,l,h1,h2,h3,h4,rfl,_⟩
    ·simp [cC,hl]at h1
    ·simp at h1
    ·simp only[cC,hl,C.rf.injEq]at h1
     obtain⟨rfl,rfl,e3,rfl,e5⟩:=h1
     simp only[nodeX,hl,nodeAt,Option.some.injEq,Prod.mk.injEq]at h2
     obtain⟨_,rfl⟩:=h2
     simp only[List.length_map,Nat.zero_add,<-e5]at h3
     simp only[cC,hl,takeC,hg,nodeAt,List.length_map,h3,and_self,if_true,cutR_nil,delO]
     rw[List.drop_zero,<-e5]at h4
     rw[h4,e3]
   ·simp at ho
  ·simp at ho
 | un=>simp [ownX]at ho
 | rf r v p lo t ws=>simp [ownX]at ho
 | pe r v p i c t x=>simp [ownX]at ho
 | pb r c=>simp [ownX]at ho
theorem takeAll_sim {X:XSt}{S:St}(hS:SimX X S):∀(cs:List XC) (ds:List D) (ids:List Nat) (roots:List (Nat×Root)),All2 (CD X.roots) cs ds->ownIds X.roots cs=some ids->ids.Nodup->(∀r∈ids,get roots r=get S.roots r) ->
  ∃rt,takeAll roots (cs.map (cC X.roots))=some (ds,rt)/\∀r,get rt r=if r∈ids then none else get roots r
 | [],[],ids,roots,_,hi,_,_=>by
  simp only[ownIds,Option.some.injEq]at hi;subst hi
  exact⟨roots,rfl,fun r=>by simp⟩
 | c::cs,d::ds,ids,roots,h,hi,hn,hr=>by
  simp only[ownIds]at hi
  split at hi
  ·rename_i r l h1 h2
   simp only[Option.some.injEq]at hi;subst hi
   rw[List.nodup_cons]at hn
   have e:=own_take hS h.1 h1 (roots:=roots) (fun q hq=>by simp only[Option.some.injEq]at hq;subst hq;exact hr _ List.mem_cons_self)
   obtain⟨rt,e1,e2⟩:=takeAll_sim hS cs ds l (del roots r) h.2 h2 hn.2 (fun q hq=>by
    rw[get_del,if_neg (fun e=>hn.1 (by rw[e];exact hq))]
    exact hr q (List.mem_cons_of_mem _ hq))
   refine⟨rt, ?_,fun q=>?_⟩
   ·simp only[List.map_cons,takeAll,e,delO,e1]
   ·rw[e2 q,get_del]
    by_cases hq:q∈l
    ·simp [hq]
    ·by_cases he:r=q
     ·subst he;simp
     ·rw[if_neg hq,if_neg he,if_neg (by simp only[List.mem_cons,not_or];exact⟨fun e=>he e.symm,hq⟩)]
  ·rename_i l h1 h2
   simp only[Option.some.injEq]at hi;subst hi
   have e:=own_take hS h.1 h1 (roots:=roots) (fun q hq=>by simp at hq)
   obtain⟨rt,e1,e2⟩:=takeAll_sim hS cs ds l roots h.2 h2 hn hr
   exact⟨rt,by simp only[List.map_cons,takeAll,e,delO,e1],e2⟩
  ·simp at hi
 | [],_::_,_,_,h,_,_,_=>h.elim
 | _::_,[],_,_,h,_,_,_=>h.elim
theorem delRs_env:∀(l:List Nat) (X:XSt),(X.delRs l).env=X.env/\(X.delRs l).next=X.next/\(X.delRs l).fix=X.fix/\X.stamp<=(X.delRs l).stamp
 | [],X=>⟨rfl,rfl,rfl,Nat.le_refl _⟩
 | r::l,X=>by
  obtain⟨a,b,c,d⟩:=delRs_env l (X.setR r .gone)
  exact⟨a,b,c,Nat.le_trans (Nat.le_succ _) d⟩
theorem delRs_lk:∀(l:List Nat) (X:XSt) (r:Nat),(r∈l->∃s,lk (X.delRs l).roots r=some (s,.gone))/\(r ∉ l->lk (X.delRs l).roots r=lk X.roots r)
 | [],X,r=>⟨fun h=>by simp at h,fun _=>rfl⟩
 | q::l,X,r=>by
  obtain⟨a,b⟩:=delRs_lk l (X.setR q .gone) r
  refine⟨fun h=>?_,fun h=>?_⟩
  ·by_cases hl:r∈l
   ·exact a hl
   ·have:=(List.mem_cons.1 h).resolve_right hl
    subst this
    refine⟨X.stamp, ?_⟩
    show lk ((X.setR r .gone).delRs l).roots r=_
    rw[b hl]
    simp only[XSt.setR];rw[lk_cons,if_pos rfl]
  ·rw[List.mem_cons,not_or]at h
   show lk ((X.setR q .gone).delRs l).roots r=_
   rw[b h.2]
   simp only[XSt.setR];rw[lk_cons,if_neg (fun e=>h.1 e.symm)]
theorem gone_ok {X:XSt}{S:St}(hX:XOk X) (hS:SimX X S){r:Nat}(hr:r<X.next):XOk (X.setR r .gone)/\Ext X (X.setR r .gone)/\SimX (X.setR r .gone) S:=by
 obtain⟨a,b⟩:=chg_ok hX (x:=.gone) (Nat.le_refl _) hr (fun cs h=>by simp at h)
 refine⟨a,b, ?_⟩
 have:=sim_step (X':=X.setR r .gone) (ks:=[]) (roots:=S.roots) hX hS rfl rfl (fun c hc=>cC_cons (.inr (.inl rfl)) hc) ?_
 ·have e:=hS.next
  obtain⟨E,R,n,f⟩:=S
  simp only at e
  subst e
  exact this
 ·intro q s x hl
  simp only[XSt.setR]at hl
  rw[lk_cons]at hl
  split at hl
  ·simp only[Option.some.injEq,Prod.mk.injEq]at hl
   obtain⟨_,rfl⟩:=hl
   exact .inr fun y hy=>by simp [cRt]at hy
  ·exact .inl ⟨hl,by rw[omap_nil]⟩
theorem delRs_ok:∀(l:List Nat){X:XSt}{S:St},XOk X->SimX X S->(∀r∈l,r<X.next)->XOk (X.delRs l)/\Ext X (X.delRs l)/\SimX (X.delRs l) S
 | [],X,S,hX,hS,_=>⟨hX,Ext.refl X,hS⟩
 | r::l,X,S,hX,hS,hr=>by
  obtain⟨a,b,c⟩:=gone_ok hX hS (hr r List.mem_cons_self)
  obtain⟨a',b',c'⟩:=delRs_ok l a c (fun q hq=>hr q (List.mem_cons_of_mem _ hq))
  exact⟨a',b.trans b',c'⟩
theorem ownIds_lt {X:XSt}(hX:XOk X):∀{cs:List XC}{l:List Nat},ownIds X.roots cs=some l->∀r∈l,r<X.next
 | [],l,h,r,hr=>by simp only[ownIds,Option.some.injEq]at h;subst h;simp at hr
 | c::cs,l,h,r,hr=>by
  simp only[ownIds]at h
  split at h
  ·rename_i q m h1 h2
   simp only[Option.some.injEq]at h;subst h
   rcases List.mem_cons.1 hr with rfl|hr
   ·cases c with
    | rw q =>
     simp only[ownX]at h1
     split at h1
     ·rename_i hl;simp only[Option.some.injEq]at h1;subst h1;exact (hX.ids _ _ _ hl).1
     ·simp at h1
    | rv q lo n =>
     simp only[ownX]at h1
     split at h1
     ·rename_i hl
      split at h1
      ·simp only[Option.some.injEq]at h1;subst h1;exact (hX.ids _ _ _ hl).1
      ·simp at h1
     ·simp at h1
    | _=>simp [ownX]at h1
   ·exact ownIds_lt hX h2 r hr
  ·rename_i m h1 h2
   simp only[Option.some.injEq]at h;subst h
   exact ownIds_lt hX h2 r hr
  ·simp at h
theorem sim_roots {X:XSt}{E:List (Nat×V)}{R R':List (Nat×Root)}{n f:Nat}(hS:SimX X ⟨E,R,n,f⟩) (h:∀r s x,lk X.roots r=some (s,x)->x≠.gone->get R' r=get R r):SimX X ⟨E,R',n,f⟩:=by
 refine⟨hS.next,hS.fix,hS.env, ?_⟩
 intro r s x hl y hy
 obtain⟨y',a,b⟩:=hS.roots r s x hl y hy
 exact⟨y',by rw[show get R' r=get R r from h r s x hl (fun e=>by subst e;simp [cRt]at hy)];exact a,b⟩
theorem newR_ok {X:XSt}{E:List (Nat×V)}{R:List (Nat×Root)}{n f:Nat}(hX:XOk X) (hS:SimX X ⟨E,R,n,f⟩){x:XR}{y:Root}(hb:∀cs,x=.bx cs->∀e∈cs,e.1=X.stamp/\okC X.roots X.next X.stamp e.2) (hy:∃y',cRt X.roots x=some y'/\WkR y y') :
  XOk (X.newR x)/\Ext X (X.newR x)/\SimX (X.newR x) ⟨E,(X.next,y)::R,X.next+1,f⟩:=by
 obtain⟨a,b⟩:=chg_ok hX (x:=x) (Nat.le_succ _) (Nat.lt_succ_self X.next) (fun cs h c e he=>by
  obtain⟨h1,h2⟩:=hb cs h e (List.mem_of_getElem? he)
  exact⟨.inl h1,h2⟩)
 refine⟨a,b, ?_⟩
 have key:∀c,okC X.roots X.next X.stamp c->cC ((X.next,X.stamp,x)::X.roots) c=.un\/cC ((X.next,X.stamp,x)::X.roots) c=cC X.roots c:=fun c hc=>cC_cons (.inl (Nat.le_refl _)) hc
 refine sim_step (X':=X.newR x) (ks:=[]) (roots:=(X.next,y)::R) hX hS rfl rfl key ?_
 intro q s z hl
 simp only[XSt.newR]at hl
 rw[lk_cons]at hl
 split at hl
 ·rename_i e
  simp only at e
  subst e
  simp only[Option.some.injEq,Prod.mk.injEq]at hl
  obtain⟨_,rfl⟩:=hl
  right
  intro y1 hy1
  obtain⟨y',c1,c2⟩:=hy
  refine⟨y,by simp [get], ?_⟩
  cases x with
  | tr t xs=>simp only[cRt,Option.some.injEq]at c1 hy1;subst c1 hy1;exact c2
  | im t xs=>simp only[cRt,Option.some.injEq]at c1 hy1;subst c1 hy1;exact c2
  | gone=>simp [cRt]at hy1
  | bx cs =>
   simp only[cRt,Option.some.injEq]at c1 hy1;subst c1 hy1
   cases y with
   | bx ys =>
    have h1:All2 WkC ys ((cs.map (·.2)).map (cC X.roots)):=by rw[List.map_map];exact c2
    have h2:=wkCs_kill (ks:=[]) key (fun c hc=>by
     obtain⟨e,he,rfl⟩:=List.mem_map.1 hc
     exact (hb cs rfl e he).2) h1
    have h3:ys.map (killCs [])=ys:=by
     have:killCs []=fun c=>c:=by funext c;rfl
     rw[this];simp
    rw[h3,List.map_map]at h2
    exact h2
   | _=>exact c2.elim
 ·rename_i e
  left
  refine⟨hl, ?_⟩
  rw[omap_nil]
  simp only[get]
  rw[if_neg e]
end Go.Vs
namespace Go.Vs
variable [Glb]
def zeroT:(t:Ty)->t.den
 | .I _=>(0:Int)
 | .Y=>(0:UInt8)
 | .B=>false
 | .S=>([]:List UInt8)
 | .L t=>([]:List t.den)
 | .P a b=>(zeroT a,zeroT b)
def zc:Ty->List C
 | .I k=>[.lf (.int k 0)]
 | .Y=>[.lf (.int .u8 0)]
 | .B=>[.lf (.bool false)]
 | .S=>[.lf (.string ⟨#[]⟩)]
 | .L t=>[.nl t.n]
 | .P a b=>zc a++zc b
def eqC:C->C->Bool
 | .lf (.int k z),.lf (.int k' z')=>decide (k=k')&&decide (z=z')
 | .lf (.bool a),.lf (.bool b)=>a==b
 | .lf (.string a),.lf (.string b)=>a.data.toList.isEmpty&&b.data.toList.isEmpty
 | .nl a,.nl b=>Nat.beq a b
 | _,_=>false
def eqCs:List C->List C->Bool
 | [],[]=>true
 | a::as,b::bs=>eqC a b&&eqCs as bs
 | _,_=>false
inductive Hn where
 | no
 | el (t:Ty)
 | sb
 deriving Inhabited
def mkOk (z:Int) (bytes:Nat):Bool:=decide (0<=z/\z*bytes<=140737488355328/\z<=9223372036854775807)
def rootOfX:XC->Option Nat
 | .rw r=>some r
 | .rv r _ _=>some r
 | .rf r _ _ _ _ _=>some r
 | _=>none
def storeX {β:Type}(X:XSt) (n:Nat) (p v:XV) (k:XV->XSt->Option β):Option β:=match p,cellsXV v with
 | .a (.c (.pb r c)),some ys=>match lk X.roots r with
  | some (_,.bx cs)=>match Nat.beq ys.length n&&Nat.ble (c+n) cs.length with
   | true=>k .un (X.setR r (.bx (cs.take c++(ys.map (fun y=>(X.stamp,y))++cs.drop (c+n)))))
   | false=>none
  | _=>none
 | .a (.c (.pe r v [] i c t e)),some ys=>match lk X.roots r with
  | some (v',.tr t' xs)=>if ht:t'=t then match Nat.beq v' v&&Nat.beq ys.length n&&Nat.ble (c+n) t.n,ownIds X.roots ys with
   | true,some ids=>match nodupN ids&&!hasN r ids&&(ids.isEmpty&&(ys.all fun y=>match y with|.nl _=>false|_=>true)||Nat.ble X.fix r) with
    | true=>readT X.roots t ((cellsX r v [] i t e 0).take c++(ys++(cellsX r v [] i t e 0).drop (c+n))) fun e' rest=>match rest with
     | []=>k .un ((X.delRs ids).setR r (.tr t (lSet (ht ▸ xs) i e')))
     | _=>none
    | false=>none
   | _,_=>none
   else none
  | _=>none
 | _,_=>none
def baseX (X:XSt) (x:XV) (h:Hn):Option ((t:Ty)×List t.den×Option Nat):=match x with
 | .a (.c (.nl _))=>match h with
  | .el t=>some ⟨t,[],none⟩
  | _=>none
 | .a (.c (.rw r))=>match lk X.roots r with
  | some (_,.tr t xs)=>some ⟨t,xs,some r⟩
  | _=>none
 | _=>none
def oneL:Option Nat->List Nat
 | none=>[]
 | some r=>[r]
def wrX {β:Type}(X:XSt) (h:Hn) (j:W) (k:XV->XSt->Option β):Option β:=match j with
 | .alloc zero=>match zero.all inC8 with
  | true=>k (.a (.c (.pb X.next 0))) (X.newR (.bx (zero.map fun c=>(X.stamp,ofC c))))
  | false=>none
 | .box x=>match cellsXV (X.opd x) with
  | some cs=>k (.a (.c (.pb X.next 0))) (X.newR (.bx (cs.map fun c=>(X.stamp,c))))
  | none=>none
 | .store n x v=>storeX X n (X.opd x) (X.opd v) k
 | .mks sz bytes zero l c=>match h,intOf (X.opd l),intOf (X.opd c) with
  | .el t,some z,some z'=>match eqCs zero (zc t)&&Nat.beq sz t.n with
   | true=>chk (iEq z' z) (chk (mkOk z bytes) (k (.a (.c (.rw X.next))) (X.newR (.tr t (lRep (nOf z) (zeroT t))))))
   | false=>none
  | _,_,_=>none
 | .lit sz len zero parts=>match zero.all inC8 with
  | true=>match fillX X ((rep len zero).map ofC) (parts.map fun x=>(x.1*sz,sz,x.2)) with
   | some cs=>match h with
    | .sb=>k (.sb X.next len) (X.newR (.bx (cs.map fun c=>(X.stamp,c))))
    | .el t=>match ownIds X.roots cs with
     | some ids=>match nodupN ids&&Nat.beq sz t.n with
      | true=>readN X.roots t len cs fun xs=>k (.a (.c (.rw X.next))) ((X.delRs ids).newR (.tr t xs))
      | false=>none
     | none=>none
    | .no=>none
   | none=>none
  | false=>none
 | .s2b x=>match X.opd x with
  | .a (.c (.s l))=>k (.a (.c (.rw X.next))) (X.newR (.tr .Y l))
  | _=>none
 | .app sz bytes _ x y=>match baseX X (X.opd x) h,X.opd y with
  | some ⟨t,xs,ro⟩,.a (.c (.nl _))=>match Nat.beq sz t.n&&(match X.opd x with|.a (.c (.nl n))=>Nat.beq n sz|_=>true) with
   | true=>chk (room xs.length bytes) (k (.a (.c (.rw X.next))) ((X.delRs (oneL ro)).newR (.tr t xs)))
   | false=>none
  | some ⟨t,xs,ro⟩,.a (.c c)=>match Nat.beq sz t.n&&(match X.opd x with|.a (.c (.nl n))=>Nat.beq n sz|_=>true) with
   | true=>match rootOfX c with
    | some ry=>match hasN ry (oneL ro) with
     | true=>none
     | false=>winX X.roots c fun t' ws=>castL t' t ws fun ws=>chk (room (xs.length+ws.length) bytes) (match t.flat with
      | true=>k (.a (.c (.rw X.next))) ((X.delRs (oneL ro)).newR (.tr t (lApp xs ws)))
      | false=>match ownX X.roots c with
       | some (some r)=>k (.a (.c (.rw X.next))) ((X.delRs (r::oneL ro)).newR (.tr t (lApp xs ws)))
       | _=>none)
    | none=>none
   | false=>none
  | _,_=>none
 | .aps _ x y=>match baseX X (X.opd x) (.el .Y),X.opd y with
  | some ⟨.Y,xs,ro⟩,.a (.c (.s l))=>match (match X.opd x with|.a (.c (.nl n))=>Nat.beq n 1|_=>true) with
   | true=>chk (room (xs.length+l.length) 1) (k (.a (.c (.rw X.next))) ((X.delRs (oneL ro)).newR (.tr .Y (lApp xs l))))
   | false=>none
  | _,_=>none
 | _=>none
def isLeafX:XC->Bool
 | .lf _=>true
 | .i _ _=>true
 | .y _=>true
 | .b _=>true
 | .s _=>true
 | _=>false
def plainW (X:XSt) (j:W):Bool:=match j with
 | .store _ x v=>match X.opd x,cellsXV (X.opd v) with
  | .a (.c (.pe _ _ _ _ _ _ _)),some ys=>ys.all isLeafX
  | _,_=>true
 | _=>true
def WrOk {β:Type}(X:XSt) (S:St) (j:W) (k:XV->XSt->Option β) (out:β):Prop :=
 ∃xv X',k xv X'=some out/\XOk X'/\Ext X X'/\okV X'.roots X'.next X'.stamp xv/\X'.env=X.env /\
  ∃v ks roots,WkV v (cV X'.roots xv)/\SimX X' ⟨killEnv ks S.env,roots,X'.next,S.fix⟩/\(plainW X j=true->ks=[]/\∀r s x,lk X'.roots r=some (s,x)->s<X.stamp->get roots r=get S.roots r)/\∀K:KW,K v ks roots X'.next->wr S K j
section
variable {β:Type} {X:XSt} {S:St} {out:β}
theorem eqC_eq {a b:C}(h:eqC a b=true):a=b:=by
 unfold eqC at h
 split at h
 ·simp only[Bool.and_eq_true,decide_eq_true_eq]at h;obtain⟨rfl,rfl⟩:=h;rfl
 ·simp only[beq_iff_eq]at h;rw[h]
 ·rename_i a b
  simp only[Bool.and_eq_true,List.isEmpty_iff]at h
  obtain⟨⟨a⟩⟩:=a
  obtain⟨⟨b⟩⟩:=b
  simp only at h
  rw[h.1,h.2]
 ·rw[Nat.eq_of_beq_eq_true h]
 ·simp at h
theorem eqCs_eq:∀{a b:List C},eqCs a b=true->a=b
 | [],[],_=>rfl
 | a::as,b::bs,h=>by
  simp only[eqCs,Bool.and_eq_true]at h
  rw[eqC_eq h.1,eqCs_eq h.2]
 | [],_::_,h=>by simp [eqCs]at h
 | _::_,[],h=>by simp [eqCs]at h
theorem zc_enc:∀t:Ty,(zc t).map zeroD=encT t (zeroT t)
 | .I _=>rfl
 | .Y=>rfl
 | .B=>rfl
 | .S=>rfl
 | .L t=>rfl
 | .P a b=>by simp only[zc,List.map_append,zc_enc a,zc_enc b,encT,zeroT]
theorem zc_plain:∀t:Ty,(zc t).all plainC=true
 | .I _=>rfl
 | .Y=>rfl
 | .B=>rfl
 | .S=>rfl
 | .L t=>rfl
 | .P a b=>by simp only[zc,List.all_append,zc_plain a,zc_plain b,Bool.and_self]
theorem rw_wk {X':XSt}{r s:Nat}{t:Ty}{xs:List t.den}(h:lk X'.roots r=some (s,.tr t xs)){n:Nat}(hn:n=xs.length):WkV (.a (.c (.rf r [] t.n 0 n))) (cV X'.roots (.a (.c (.rw r)))):=by
 subst hn
 simp only[cV,cA,cC,h]
 exact WkC.refl _
theorem newR_lk (X:XSt) (x:XR):lk (X.newR x).roots X.next=some (X.stamp,x):=by simp only[XSt.newR];rw[lk_cons,if_pos rfl]
theorem pb_wk {X:XSt}{cs:List (Nat×XC)}{r:Nat}(h:r=X.next):WkV (.a (.c (.pb r 0))) (cV (X.newR (.bx cs)).roots (.a (.c (.pb X.next 0)))):=by
 subst h
 simp only[cV,cA,cC,newR_lk]
 exact WkC.refl _
theorem fresh_ok (hX:XOk X) (hS:SimX X S){ids:List Nat}(hi:∀r∈ids,r<X.next){t:Ty}{xs:List t.den}{roots:List (Nat×Root)}(hr:∀r,r ∉ ids->get roots r=get S.roots r){k:XV->XSt->Option β}{j:W}(h:k (.a (.c (.rw X.next))) ((X.delRs ids).newR (.tr t xs))=some out)
  {n:Nat} (hn:n=xs.length) (hw:∀K:KW,K (.a (.c (.rf S.next [] t.n 0 n))) [] ((S.next,.tr t.n (xs.map (encT t)))::roots) (S.next+1)->wr S K j):WrOk X S j k out:=by
 obtain⟨a,b,c⟩:=delRs_ok ids hX hS hi
 obtain⟨e1,e2,e3,e4⟩:=delRs_env ids X
 have c':SimX (X.delRs ids) ⟨S.env,roots,S.next,S.fix⟩:=by
  refine sim_roots (R:=S.roots) c ?_
  intro r s x hl hx
  by_cases hm:r∈ids
  ·obtain⟨s',hg⟩:=(delRs_lk ids X r).1 hm
   rw[hl]at hg
   simp only[Option.some.injEq,Prod.mk.injEq]at hg
   exact (hx hg.2).elim
  ·exact hr r hm
 obtain⟨f1,f2,f3⟩:=newR_ok (x:=.tr t xs) (y:=.tr t.n (xs.map (encT t))) a c' (fun cs h=>by simp at h) ⟨_,rfl,rfl,rfl⟩
 have hnx:S.next=X.next:=hS.next
 refine⟨_,_,h,f1,b.trans f2, ?_,e1,.a (.c (.rf S.next [] t.n 0 n)),[],(S.next,.tr t.n (xs.map (encT t)))::roots, ?_, ?_, ?_, ?_⟩
 ·show X.next<(X.delRs ids).next+1
  rw[e2];exact Nat.lt_succ_self _
 ·rw[hnx]
  refine rw_wk (s:=(X.delRs ids).stamp) ?_ hn
  rw[<-e2];exact newR_lk _ _
 ·rw[killEnv_nil,hnx]
  have:((X.delRs ids).newR (.tr t xs)).next=(X.delRs ids).next+1:=rfl
  rw[this,<-e2]
  exact f3
 ·intro _
  refine⟨rfl,fun r s x hl hs=>?_⟩
  simp only[XSt.newR]at hl
  rw[lk_cons]at hl
  split at hl
  ·simp only[Option.some.injEq,Prod.mk.injEq]at hl;omega
  ·rename_i hne
   simp only at hne
   simp only[get]
   rw[if_neg (by rw[hnx,<-e2];exact hne)]
   by_cases hm:r∈ids
   ·have key:∀(l:List Nat) (Y:XSt),r∈l->∀s x,lk (Y.delRs l).roots r=some (s,x)->Y.stamp<=s:=by
     intro l
     induction l with
     | nil=>intro Y h;simp at h
     | cons q l ih =>
      intro Y h s x hl
      by_cases hq:r∈l
      ·have:=ih (Y.setR q .gone) hq s x hl
       have e:(Y.setR q .gone).stamp=Y.stamp+1:=rfl
       omega
      ·have hq':=(List.mem_cons.1 h).resolve_right hq
       subst hq'
       have h2:lk ((Y.setR r .gone).delRs l).roots r=some (s,x):=hl
       rw[(delRs_lk l (Y.setR r .gone) r).2 hq]at h2
       simp only[XSt.setR]at h2
       rw[lk_cons,if_pos rfl]at h2
       simp only[Option.some.injEq,Prod.mk.injEq]at h2
       omega
    have:=key ids X hm s x hl
    omega
   ·exact hr r hm
 ·intro K hK
  have:((X.delRs ids).newR (.tr t xs)).next=S.next+1:=by show (X.delRs ids).next+1=_;rw[e2,hnx]
  rw[this]at hK
  exact hw K hK
theorem box_new (hX:XOk X) (hS:SimX X S){cs:List XC}{ys:List C}(hy:All2 WkC ys (cs.map (cC X.roots))) (ho:∀c∈cs,okC X.roots X.next X.stamp c){k:XV->XSt->Option β}{j:W}{xv:XV}{v:V}(hv:WkV v (cV (X.newR (.bx (cs.map fun c=>(X.stamp,c)))).roots xv)) (hxo:okV (X.newR (.bx (cs.map fun c=>(X.stamp,c)))).roots (X.next+1) (X.stamp+1) xv) (h:k xv (X.newR (.bx (cs.map fun c=>(X.stamp,c))))=some out)
  (hw:∀K:KW,K v [] ((S.next,.bx ys)::S.roots) (S.next+1)->wr S K j):WrOk X S j k out:=by
 obtain⟨f1,f2,f3⟩:=newR_ok (x:=.bx (cs.map fun c=>(X.stamp,c))) (y:=.bx ys) (E:=S.env) (R:=S.roots) (n:=S.next) (f:=S.fix) hX hS (fun cs' h e he=>by
  simp only[XR.bx.injEq]at h
  subst h
  obtain⟨c,hc,rfl⟩:=List.mem_map.1 he
  exact⟨rfl,ho c hc⟩) ⟨_,rfl,by simp only[WkR,List.map_map];exact hy⟩
 have hnx:S.next=X.next:=hS.next
 refine⟨xv,_,h,f1,f2,hxo,rfl,v,[],(S.next,.bx ys)::S.roots,hv, ?_,fun _=>⟨rfl,fun r s x hl hs=>?_⟩,fun K hK=>hw K ?_⟩
 ·rw[killEnv_nil,hnx];exact f3
 ·simp only[XSt.newR]at hl
  rw[lk_cons]at hl
  split at hl
  ·simp only[Option.some.injEq,Prod.mk.injEq]at hl;omega
  ·rename_i hne
   simp only[get]
   rw[if_neg (by rw[hnx];exact hne)]
 ·rw[hnx];rw[hnx]at hK;exact hK
end
end Go.Vs
namespace Go.Vs
variable [Glb]
section
variable {β:Type} {X:XSt} {S:St} {out:β}
def KsIn (r:Nat) (ks:List (Nat×Path)):Prop:=∀k∈ks,k.1=r/\k.2≠[]
theorem killCs_app (ks ks':List (Nat×Path)) (x:C):killCs (ks++ks') x=killCs ks' (killCs ks x):=by
 induction ks generalizing x with
 | nil=>rfl
 | cons k ks ih=>exact ih _
theorem killCs_in {r:Nat}{x:C}(hx:∀q p s lo n,x=.rf q p s lo n->q≠r\/p=[]) (hx2:∀q p i c,x=.pe q p i c->q≠r\/p=[]):∀{ks:List (Nat×Path)},KsIn r ks->killCs ks x=x
 | [],_=>rfl
 | k::ks,h=>by
  obtain⟨h1,h2⟩:=h k List.mem_cons_self
  have e:killC k.1 k.2 x=x:=by
   cases x with
   | rf q p s lo n =>
    simp only[killC]
    rw[if_neg]
    rintro ⟨a,b⟩
    rcases hx q p s lo n rfl with h|h
    ·exact h (a.trans h1)
    ·subst h;exact h2 (by simpa using b)
   | pe q p i c =>
    simp only[killC]
    rw[if_neg]
    rintro ⟨a,b⟩
    rcases hx2 q p i c rfl with h|h
    ·exact h (a.trans h1)
    ·subst h;exact h2 (by simpa using b)
   | _=>rfl
  show killCs ks (killC k.1 k.2 x)=x
  rw[e]
  exact killCs_in hx hx2 fun k hk=>h k (List.mem_cons_of_mem _ hk)
theorem rmap_rmap (k1 k2:C->C) (x:Root):Root.map k2 (Root.map k1 x)=Root.map (fun c=>k2 (k1 c)) x:=by
 cases x<;>simp [Root.map]
theorem storeT_sim (hS : SimX X S) {r i sz : Nat} (fx : Nat) : ∀ (ys : List XC) (ds : List D) (ids : List Nat) (roots : List (Nat × Root)) (es : List (List D)) (e : List D) (c : Nat) (ks : List (Nat × Path)),
    All2 (CD X.roots) ys ds → ownIds X.roots ys = some ids → ids.Nodup → r ∉ ids → ((ids = [] ∧ ∀ y ∈ ys, ∃ v, cC X.roots y = .lf v) ∨ fx ≤ r) → get roots r = some (.tr sz es) → es[i]? = some e → c + ys.length ≤ e.length → KsIn r ks →
    (∀ q ∈ ids, get roots q = (get S.roots q).map (Root.map (killCs ks))) →
    ∃ roots' m, storeT fx r [] i (ys.map (cC X.roots)) roots c ks = some (roots', ks ++ m) ∧ KsIn r m ∧ get roots' r = some (.tr sz (es.set i (e.take c ++ (ds ++ e.drop (c + ds.length))))) ∧ (∀ q, q ≠ r → q ∉ ids → get roots' q = (get roots q).map (Root.map (killCs m))) ∧ ((∀ y ∈ ys, ∃ v, cC X.roots y = .lf v) → m = [])
  | [], [], ids, roots, es, e, c, ks, _, hi, _, _, _, hg, he, hl, hk, _ => by
    refine ⟨roots, [], by simp [storeT], (fun k hk => by simp at hk), ?_, (fun q _ _ => by rw [omap_nil]), fun _ => rfl⟩
    rw [hg]
    simp only [List.nil_append, List.length_nil, Nat.add_zero, List.take_append_drop]
    rw [show es.set i e = es from by
      apply List.ext_getElem?
      intro j
      rw [List.getElem?_set]
      split
      · rename_i h; subst h
        split
        · exact he.symm
        · rename_i h; rw [List.getElem?_eq_none (by omega)]
      · rfl]
  | y :: ys, d :: ds, ids, roots, es, e, c, ks, h, hi, hn, hrn, hfx, hg, he, hl, hk, hids => by
    simp only [List.length_cons] at hl
    have hyk : killCs ks (cC X.roots y) = cC X.roots y := by
      have : ∃ o, ownX X.roots y = some o := by
        simp only [ownIds] at hi
        split at hi <;> first | exact ⟨_, by assumption⟩ | simp at hi
      obtain ⟨o, ho⟩ := this
      refine killCs_in ?_ ?_ hk
      · intro q p s lo n hq
        right
        cases y <;> simp only [ownX, reduceCtorEq] at ho <;> simp only [cC] at hq <;> (try simp at hq)
        · split at hq <;> simp at hq <;> first | exact hq.2.1 | exact hq.2.1.symm
        · split at hq <;> simp at hq <;> first | exact hq.2.1 | exact hq.2.1.symm
      · intro q p i' c' hq
        cases y <;> simp only [ownX, reduceCtorEq] at ho <;> simp only [cC] at hq <;> (try simp at hq)
        · split at hq <;> simp at hq
        · split at hq <;> simp at hq
    have hlt : i < es.length := (List.getElem?_eq_some_iff.1 he).1
    have hset : ∀ d : D, setD es [] i c d = es.set i (e.set c d) := fun d => by simp [setD, updNode, setC, he]
    have hget : ∀ d : D, (es.set i (e.set c d))[i]? = some (e.set c d) := fun d => List.getElem?_set_self hlt
    have hfin : ∀ (d : D) (ds : List D), (es.set i (e.set c d)).set i ((e.set c d).take (c + 1) ++ (ds ++ (e.set c d).drop (c + 1 + ds.length))) = es.set i (e.take c ++ (d :: ds ++ e.drop (c + (d :: ds).length))) := by
      intro d ds
      rw [List.set_set]
      congr 1
      have hc : c < e.length := by omega
      rw [List.take_add_one, List.getElem?_set_self (by simpa using hc), List.take_set_of_le (Nat.le_refl c)]
      simp only [Option.toList_some, List.append_assoc, List.cons_append, List.nil_append, List.length_cons]
      rw [List.drop_set_of_lt (by omega), show c + 1 + ds.length = c + (ds.length + 1) by omega]
    cases hyc : cC X.roots y with
    | lf u =>
      have hd : d = .lf u := by
        rcases h.1 with ⟨v, h1, rfl⟩ | ⟨n, rfl, _⟩ | ⟨t, ws, r', p, lo, l, h1, _⟩
        · rw [hyc] at h1; simp only [C.lf.injEq] at h1; rw [h1]
        · simp [cC] at hyc
        · rw [hyc] at h1; simp at h1
      subst hd
      have hids0 : ownIds X.roots ys = some ids := by
        simp only [ownIds] at hi
        split at hi
        · rename_i q l h1 h2
          exfalso
          cases y <;> simp only [ownX, reduceCtorEq, Option.some.injEq] at h1 <;> simp only [cC] at hyc
          · split at hyc <;> simp at hyc
          · split at hyc <;> simp at hyc
        · rename_i l h1 h2; rw [h2]; exact hi
        · simp at hi
      obtain ⟨roots', m, g1, g2, g3, g4, g5⟩ := storeT_sim hS fx ys ds ids (put roots r (.tr sz (es.set i (e.set c (.lf u))))) _ _ (c + 1) ks h.2 hids0 hn hrn (hfx.imp (fun h => ⟨h.1, fun y hy => h.2 y (List.mem_cons_of_mem _ hy)⟩) id) (by rw [get_put, if_pos rfl]) (hget _) (by simp; omega) hk
        (fun q hq => by rw [get_put, if_neg (fun e => hrn (by rw [e]; exact hq))]; exact hids q hq)
      refine ⟨roots', m, ?_, g2, by rw [g3, hfin], fun q hq hqi => ?_, fun hall => g5 fun y hy => hall y (List.mem_cons_of_mem _ hy)⟩
      · simp only [List.map_cons, storeT]
        rw [hyk, hyc]
        simp only [hg, hset]
        exact g1
      · rw [g4 q hq hqi, get_put, if_neg (fun e => hq e.symm)]
    | _ =>
      have hnl : ∀ u, cC X.roots y ≠ .lf u := fun u h => by rw [hyc] at h; simp at h
      have hfr : fx ≤ r := by
        rcases hfx with ⟨_, h2⟩ | h2
        · obtain ⟨v, hv⟩ := h2 y List.mem_cons_self
          exact (hnl v hv).elim
        · exact h2
      have hh : hasCell sz es [] i (c + ys.length) = true := by
        simp only [hasCell, nodeAt, Option.bind_some, he, decide_eq_true_eq]; omega
      -- the cell is taken
      have main : ∀ (o : Option Nat) (ids' : List Nat), ownX X.roots y = some o → ownIds X.roots ys = some ids' → ids = oneL o ++ ids' →
          ∃ roots' m, storeT fx r [] i ((y :: ys).map (cC X.roots)) roots c ks = some (roots', ks ++ m) ∧ KsIn r m ∧ get roots' r = some (.tr sz (es.set i (e.take c ++ (d :: ds ++ e.drop (c + (d :: ds).length))))) ∧ (∀ q, q ≠ r → q ∉ ids → get roots' q = (get roots q).map (Root.map (killCs m))) ∧ ((∀ z ∈ y :: ys, ∃ v, cC X.roots z = .lf v) → m = []) := by
        intro o ids' ho hi' hids'
        subst hids'
        have hn' : ids'.Nodup := (List.nodup_append.1 hn).2.1
        have hor : o ≠ some r := fun e => hrn (by subst e; simp [oneL])
        have ht : takeC roots (cC X.roots y) = some (d, delO roots o) := by
          -- trees are not changed by what is killed
          cases o with
          | none => exact own_take hS h.1 ho (fun q hq => by simp at hq)
          | some q =>
            have hq := hids q (by simp [oneL])
            have : ∃ t xs s, lk X.roots q = some (s, .tr t xs) := by
              cases y <;> simp only [ownX, reduceCtorEq, Option.some.injEq] at ho
              · split at ho
                · rename_i hl; simp only [Option.some.injEq] at ho; subst ho; exact ⟨_, _, _, hl⟩
                · simp at ho
              · split at ho
                · rename_i hl
                  split at ho
                  · simp only [Option.some.injEq] at ho; subst ho; exact ⟨_, _, _, hl⟩
                  · simp at ho
                · simp at ho
            obtain ⟨t, xs, s, hl⟩ := this
            obtain ⟨z, z1, z2⟩ := hS.roots q s _ hl _ rfl
            refine own_take hS h.1 ho (fun q' hq' => ?_)
            simp only [Option.some.injEq] at hq'
            subst hq'
            rw [hq, z1]
            cases z with
            | tr _ _ => rfl
            | _ => exact z2.elim
        have hgd : ∀ q, o ≠ some q → get (delO roots o) q = get roots q := by
          intro q hq
          cases o with
          | none => rfl
          | some z => simp only [delO]; rw [get_del, if_neg (fun e => hq (by rw [e]))]
        obtain ⟨roots', m, g1, g2, g3, g4, g5⟩ := storeT_sim hS fx ys ds ids' (put (killRoots r ([] ++ [(i, c)]) (delO roots o)) r (.tr sz (es.set i (e.set c d)))) _ _ (c + 1) (ks ++ [(r, [] ++ [(i, c)])]) h.2 hi' hn' (fun hm => hrn (List.mem_append_right _ hm)) (.inr hfr) (by rw [get_put, if_pos rfl]) (hget d) (by simp; omega)
          (by intro k hk'; rcases List.mem_append.1 hk' with hk' | hk'
              · exact hk k hk'
              · simp only [List.mem_singleton] at hk'; subst hk'; exact ⟨rfl, by simp⟩)
          (fun q hq => by
            have hqr : r ≠ q := fun e => hrn (by rw [e]; exact List.mem_append_right _ hq)
            have hqo : o ≠ some q := fun e => by
              subst e
              simp only [oneL, List.cons_append, List.nil_append, List.nodup_cons] at hn
              exact hn.1 hq
            rw [get_put, if_neg hqr, get_killRoots, hgd q hqo, hids q (List.mem_append_right _ hq)]
            cases get S.roots q with
            | none => rfl
            | some z =>
              simp only [Option.map_some, rmap_rmap]
              congr 2
              funext x
              rw [killCs_app]; rfl)
        refine ⟨roots', [(r, [] ++ [(i, c)])] ++ m, ?_, ?_, by rw [g3, hfin], fun q hq hqi => ?_, fun hall => by
            obtain ⟨v, hv⟩ := hall y List.mem_cons_self
            exact (hnl v hv).elim⟩
        · simp only [List.map_cons, storeT]
          rw [hyk]
          have hr1 : get (delO roots o) r = some (.tr sz es) := by rw [hgd r hor, hg]
          split
          · rename_i u hu; exact (hnl u hu).elim
          · simp only [ht, hr1, List.length_map, hfr, hh, and_self, if_true, hset]
            rw [g1, List.append_assoc]
        · intro k hk'
          rcases List.mem_append.1 hk' with hk' | hk'
          · simp only [List.mem_singleton] at hk'; subst hk'; exact ⟨rfl, by simp⟩
          · exact g2 k hk'
        · rw [List.mem_append, not_or] at hqi
          have hqo : o ≠ some q := fun e => hqi.1 (by subst e; simp [oneL])
          rw [g4 q hq hqi.2, get_put, if_neg (fun e => hq e.symm), get_killRoots, hgd q hqo]
          cases get roots q with
          | none => rfl
          | some z =>
            simp only [Option.map_some, rmap_rmap]
            congr 2
      simp only [ownIds] at hi
      split at hi
      · rename_i q l h1 h2
        simp only [Option.some.injEq] at hi; subst hi
        exact main (some q) l h1 h2 rfl
      · rename_i l h1 h2
        simp only [Option.some.injEq] at hi; subst hi
        exact main none l h1 h2 rfl
      · simp at hi
  | [], _ :: _, _, _, _, _, _, _, h, _, _, _, _, _, _, _, _, _ => h.elim
  | _ :: _, [], _, _, _, _, _, _, h, _, _, _, _, _, _, _, _, _ => h.elim
end
end Go.Vs
namespace Go.Vs
variable [Glb]
section
variable {β:Type} {X:XSt} {S:St} {out:β}
theorem all2_split {α β:Type}{R:α->β->Prop}:∀{as as':List α}{bs:List β},All2 R (as++as') bs->All2 R as (bs.take as.length)/\All2 R as' (bs.drop as.length)
 | [],as',bs,h=>⟨by simp [All2],by simpa using h⟩
 | a::as,as',b::bs,h=>by
  obtain⟨h1,h2⟩:=all2_split (as:=as) h.2
  exact⟨⟨h.1,h1⟩,h2⟩
 | _::_,_,[],h=>h.elim
theorem cd_fun {R:XRs}{c:XC}{d d':D}(h:CD R c d) (h':CD R c d'):d=d':=by
 rcases h with ⟨v,h1,rfl⟩|⟨n,rfl,rfl⟩|⟨t,ws,r,p,lo,l,h1,h2,h3,h4,rfl,h6⟩
 ·rcases h' with ⟨v',g1,rfl⟩|⟨n',rfl,rfl⟩|⟨t',ws',r',p',lo',l',g1,g2,g3,g4,rfl,g6⟩
  ·rw[h1]at g1;simp only[C.lf.injEq]at g1;rw[g1]
  ·simp [cC]at h1
  ·rw[h1]at g1;simp at g1
 ·rcases h' with ⟨v',g1,rfl⟩|⟨n',g1,rfl⟩|⟨t',ws',r',p',lo',l',g1,g2,g3,g4,rfl,g6⟩
  ·simp [cC]at g1
  ·simp only[XC.nl.injEq]at g1;rw[g1]
  ·simp [cC]at g1
 ·rcases h' with ⟨v',g1,rfl⟩|⟨n',rfl,rfl⟩|⟨t',ws',r',p',lo',l',g1,g2,g3,g4,rfl,g6⟩
  ·rw[h1]at g1;simp at g1
  ·simp [cC]at h1
  ·rw[h1]at g1
   simp only[C.rf.injEq]at g1
   obtain⟨rfl,rfl,e3,rfl,e5⟩:=g1
   rw[h2]at g2
   simp only[Option.some.injEq,Prod.mk.injEq]at g2
   obtain⟨_,rfl⟩:=g2
   rw[<-h4,<-g4,e3,e5]
theorem cds_fun {R:XRs}:∀{cs:List XC}{ds ds':List D},All2 (CD R) cs ds->All2 (CD R) cs ds'->ds=ds'
 | [],[],[],_,_=>rfl
 | c::cs,d::ds,d'::ds',h,h'=>by rw[cd_fun h.1 h'.1,cds_fun h.2 h'.2]
 | [],_::_,_,h,_=>h.elim
 | [],_,_::_,_,h=>h.elim
 | _::_,[],_,h,_=>h.elim
 | _::_,_,[],_,h=>h.elim
theorem cellsX_cd {R:XRs}{r v:Nat}{p:Path}{i sz:Nat}{l:List (List D)}{e:List D}(hv:verOk R r v=true) (hn:nodeX R r p=some (sz,l)) (hi:l[i]? = some e):∀(t:Ty) (x:t.den) (c:Nat),(∀(j:Nat) (d:D),(encT t x)[j]? = some d->e[c+j]? = some d)->All2 (CD R) (cellsX r v p i t x c) (encT t x)
 | .I _,_,_,_=>⟨.inl ⟨_,rfl,rfl⟩,trivial⟩
 | .Y,_,_,_=>⟨.inl ⟨_,rfl,rfl⟩,trivial⟩
 | .B,_,_,_=>⟨.inl ⟨_,rfl,rfl⟩,trivial⟩
 | .S,_,_,_=>⟨.inl ⟨_,rfl,rfl⟩,trivial⟩
 | .L t,xs,c,he=>by
  have h3:=nodeX_step hn i c
  simp only[hi,Option.bind_some]at h3
  rw[show e[c]? = some (.sl t.n (xs.map (encT t))) from he 0 _ rfl]at h3
  exact⟨.inr (.inr ⟨t,xs,r,p++[(i,c)],0,_,by simp [cC,hv],h3,by simp,by rw[List.drop_zero,List.take_of_length_le (by simp)],rfl,.inl rfl⟩),trivial⟩
 | .P a b,x,c,he=>by
  simp only[cellsX,encT]
  refine All2.append (cellsX_cd hv hn hi a x.1 c fun j d hd=>he j d ?_) (cellsX_cd hv hn hi b x.2 _ fun j d hd=>?_)
  ·simp only[encT]
   rw[List.getElem?_append_left (List.getElem?_eq_some_iff.1 hd).1]
   exact hd
  ·rw[show c+a.n+j=c+(a.n+j) by omega]
   refine he _ d ?_
   simp only[encT]
   rw[List.getElem?_append_right (by rw[encT_len];omega),encT_len,Nat.add_sub_cancel_left]
   exact hd
theorem cells_okXV {R:XRs}{nx st:Nat}{x:XV}(ho:okV R nx st x){cs:List XC}(hc:cellsXV x=some cs):∀c∈cs,okC R nx st c:=by
 cases x with
 | a x=>cases x with
  | c x=>simp only[cellsXV,Option.some.injEq]at hc;subst hc;intro c hc;simp only[List.mem_singleton]at hc;subst hc;exact ho
  | ag xs=>simp only[cellsXV,Option.some.injEq]at hc;subst hc;exact ho
 | _=>simp [cellsXV]at hc
theorem storeX_ok (hX:XOk X) (hS:SimX X S){n:Nat}{x v:Opd}{k:XV->XSt->Option β}(h:storeX X n (X.opd x) (X.opd v) k=some out):WrOk X S (.store n x v) k out:=by
 have hpo:=opd_okV hX x
 have hvo:=opd_okV hX v
 have hnx:S.next=X.next:=hS.next
 unfold storeX at h
 split at h
 ·-- a variable
  rename_i r c ys hp hys
  rw[hp]at hpo
  obtain⟨zs,v1,v2,_⟩:=cells_sim (opd_sim hS v) hys
  split at h
  ·rename_i s cs hl
   split at h
   ·rename_i hb
    simp only[Bool.and_eq_true]at hb
    have hb1:=Nat.eq_of_beq_eq_true hb.1
    have hb2:=Nat.le_of_ble_eq_true hb.2
    obtain⟨bs,g1,g2⟩:=box_sim hS hl
    have lz:=v2.length
    have lb:=g2.length
    simp only[List.length_map]at lz lb
    have hcells:=cells_okXV hvo hys
    obtain⟨a,b⟩:=chg_ok hX (x:=.bx (cs.take c++(ys.map (fun y=>(X.stamp,y))++cs.drop (c+n)))) (Nat.le_refl _) hpo (by
     intro cs' e j en hj
     simp only[XR.bx.injEq]at e
     subst e
     have hlt:(cs.take c).length=c:=by simp;omega
     by_cases h1:j<c
     ·rw[List.getElem?_append_left (by omega),List.getElem?_take,if_pos h1]at hj
      exact⟨.inr ⟨s,cs,hl,hj⟩,(hX.box r s cs hl en (List.mem_of_getElem? hj)).2⟩
     ·rw[List.getElem?_append_right (by omega),hlt]at hj
      by_cases h2:j-c<ys.length
      ·rw[List.getElem?_append_left (by simpa using h2),List.getElem?_map,Option.map_eq_some_iff]at hj
       obtain⟨y,hy,rfl⟩:=hj
       exact⟨.inl rfl,hcells y (List.mem_of_getElem? hy)⟩
      ·rw[List.getElem?_append_right (by simp;omega),List.getElem?_drop]at hj
       simp only[List.length_map]at hj
       rw[show c+n+(j-c-ys.length)=j by omega]at hj
       exact⟨.inr ⟨s,cs,hl,hj⟩,(hX.box r s cs hl en (List.mem_of_getElem? hj)).2⟩)
    have key:∀c',okC X.roots X.next X.stamp c'->cC ((r,X.stamp,.bx (cs.take c++(ys.map (fun y=>(X.stamp,y))++cs.drop (c+n))))::X.roots) c'=.un\/cC ((r,X.stamp,.bx (cs.take c++(ys.map (fun y=>(X.stamp,y))++cs.drop (c+n))))::X.roots) c'=killCs [] (cC X.roots c'):=fun c' hc=>cC_cons (.inr (.inr (.inl ⟨_,_,_,rfl,hl⟩))) hc
    have hsim:=sim_step (X':=X.setR r (.bx (cs.take c++(ys.map (fun y=>(X.stamp,y))++cs.drop (c+n))))) (ks:=[]) (roots:=put S.roots r (.bx (bs.take c++(zs++bs.drop (c+n))))) hX hS rfl rfl key (by
     intro q s' z hq
     simp only[XSt.setR]at hq
     rw[lk_cons]at hq
     split at hq
     ·rename_i e
      simp only at e;subst e
      simp only[Option.some.injEq,Prod.mk.injEq]at hq
      obtain⟨_,rfl⟩:=hq
      right
      intro y hy
      simp only[cRt,Option.some.injEq]at hy;subst hy
      refine⟨_,by rw[get_put,if_pos rfl], ?_⟩
      have w1:All2 WkC bs ((cs.map (·.2)).map (cC X.roots)):=by rw[List.map_map];exact g2
      have w2:All2 WkC (bs.take c++(zs++bs.drop (c+n))) (((cs.map (·.2)).take c++(ys++(cs.map (·.2)).drop (c+n))).map (cC X.roots)):=by
       simp only[List.map_append,List.map_take,List.map_drop]
       exact wk_app (wk_take w1) (wk_app v2 (wk_drop w1))
      have w3:=wkCs_kill (ks:=[]) key (by
       intro c' hc'
       simp only[List.mem_append]at hc'
       rcases hc' with hc'|hc'|hc'
       ·obtain⟨e,he,rfl⟩:=List.mem_map.1 (List.mem_of_mem_take hc')
        exact (hX.box r s cs hl e he).2
       ·exact hcells c' hc'
       ·obtain⟨e,he,rfl⟩:=List.mem_map.1 (List.mem_of_mem_drop hc')
        exact (hX.box r s cs hl e he).2) w2
      have e3:(bs.take c++(zs++bs.drop (c+n))).map (killCs [])=bs.take c++(zs++bs.drop (c+n)):=by
       have:killCs []=fun c=>c:=by funext c;rfl
       rw[this];simp
      rw[e3]at w3
      simp only[WkR,List.map_append,List.map_map,List.map_take,List.map_drop]at w3 ⊢
      exact w3
     ·rename_i e
      left
      exact⟨hq,by rw[omap_nil,get_put,if_neg e]⟩)
    have hpS:S.opd x=.a (.c (.pb r c)):=by rw[opd_c hS hp (by simp [cC,hl])];simp only[cC,hl]
    refine⟨_,_,h,a,b,trivial,rfl,.un,[],_,trivial,hsim,fun _=>⟨rfl,fun q s' z hq hs=>?_⟩,fun K hK=>?_⟩
    ·simp only[XSt.setR]at hq
     rw[lk_cons]at hq
     split at hq
     ·simp only[Option.some.injEq,Prod.mk.injEq]at hq;omega
     ·rename_i e
      rw[get_put,if_neg e]
    simp only[wr,hpS]
    refine⟨zs,v1,by omega,bs,g1,by omega, ?_⟩
    rw[hnx];exact hK
   ·simp at h
  ·simp at h
 ·-- an element
  rename_i r v' i c t e ys hp hys
  rw[hp]at hpo
  obtain⟨p1,p2,p3⟩:=hpo
  split at h
  ·rename_i v'' t' xs hl
   split at h
   ·rename_i ht
    subst ht
    split at h
    ·rename_i ids hb hids
     simp only[Bool.and_eq_true]at hb
     have hb1:=Nat.eq_of_beq_eq_true hb.1.1
     have hb2:=Nat.eq_of_beq_eq_true hb.1.2
     have hb3:=Nat.le_of_ble_eq_true hb.2
     subst hb1
     split at h
     ·rename_i hc
      simp only[Bool.and_eq_true,Bool.or_eq_true,Bool.not_eq_true',List.isEmpty_iff,List.all_eq_true]at hc
      obtain⟨⟨hnd,hnr⟩,hfx⟩:=hc
      have hnd:=nodupN_ok hnd
      have hnr:r ∉ ids:=fun hm=>by rw[hasN_mem.2 hm]at hnr;simp at hnr
      have hv:verOk X.roots r v''=true:=verOk_of hl
      have hnode:nodeX X.roots r []=some (t'.n,xs.map (encT t')):=by simp only[nodeX,hl];rfl
      obtain⟨l,q1,q2⟩:=p3 hv
      rw[hnode]at q1
      simp only[Option.some.injEq,Prod.mk.injEq]at q1
      obtain⟨_,rfl⟩:=q1
      have hcells:=cells_okXV hvo hys
      have hec:=cellsX_cd hv hnode q2 t' e 0 (fun j d hd=>by simpa using hd)
      have heo:=cellsX_ok (nx:=X.next) (st:=X.stamp) p1 p2 (fun _=>⟨hnode,q2⟩) t' e 0 (fun j d hd=>by simpa using hd)
      have hel:=cellsX_len r v'' [] i t' e 0
      obtain⟨e',c0,rest,hcs,h,hcd⟩:=readT_ok (nx:=X.next) (st:=X.stamp) t' _ _ out (by
       intro y hy
       simp only[List.mem_append]at hy
       rcases hy with hy|hy|hy
       ·exact heo y (List.mem_of_mem_take hy)
       ·exact hcells y hy
       ·exact heo y (List.mem_of_mem_drop hy)) h
      split at h
      ·rw[List.append_nil]at hcs
       subst hcs
       obtain⟨s1,s2⟩:=all2_split hcd
       obtain⟨s2,s3⟩:=all2_split s2
       have l1:((cellsX r v'' [] i t' e 0).take c).length=c:=by simp;omega
       rw[l1]at s1 s2 s3
       -- what stays
       have t1:(encT t' e').take c=(encT t' e).take c:=by
        refine cds_fun s1 ?_
        have:=hec
        have e1:cellsX r v'' [] i t' e 0=(cellsX r v'' [] i t' e 0).take c++(cellsX r v'' [] i t' e 0).drop c:=(List.take_append_drop _ _).symm
        rw[e1]at this
        have:=(all2_split this).1
        rw[l1]at this;exact this
       have t3:((encT t' e').drop c).drop ys.length=(encT t' e).drop (c+n):=by
        refine cds_fun s3 ?_
        have:=hec
        have e1:cellsX r v'' [] i t' e 0=(cellsX r v'' [] i t' e 0).take (c+n)++(cellsX r v'' [] i t' e 0).drop (c+n):=(List.take_append_drop _ _).symm
        rw[e1]at this
        have:=(all2_split this).2
        rw[show ((cellsX r v'' [] i t' e 0).take (c+n)).length=c+n by simp;omega]at this
        exact this
       have hds:(((encT t' e').drop c).take ys.length).length=ys.length:=s2.length.symm
       have henc:encT t' e'=(encT t' e).take c++(((encT t' e').drop c).take ys.length++(encT t' e).drop (c+n)):=by
        rw[<-t1,<-t3,List.take_append_drop,List.take_append_drop]
       obtain⟨z,z1,z2⟩:=hS.roots r v'' _ hl _ rfl
       have hg:get S.roots r=some (.tr t'.n (xs.map (encT t'))):=by
        cases z with
        | tr _ _=>obtain⟨rfl,rfl⟩:=z2;exact z1
        | _=>exact z2.elim
       obtain⟨roots',m,f1,f2,f3,f4,f5⟩:=storeT_sim hS S.fix ys _ ids S.roots _ (encT t' e) c [] s2 hids hnd hnr (by
        rcases hfx with ⟨h1,h2⟩|h1
        ·left
         refine⟨h1,fun y hy=>?_⟩
         have:=h2 y hy
         subst h1
         -- it takes no root,and is no nil
         have key:∀(ys:List XC),ownIds X.roots ys=some []->y∈ys->ownX X.roots y=some none:=by
          intro ys
          induction ys with
          | nil=>intro _ hy;simp at hy
          | cons a ys ih =>
           intro hi hy
           simp only[ownIds]at hi
           split at hi
           ·simp at hi
           ·rename_i l h1 h2
            rcases List.mem_cons.1 hy with rfl|hy
            ·exact h1
            ·simp only[Option.some.injEq]at hi;subst hi;exact ih h2 hy
           ·simp at hi
         have ho:=key ys hids hy
         cases y<;>simp only[ownX,reduceCtorEq]at ho<;>first
          | exact⟨_,rfl⟩
          | (simp at this;done)
          | (split at ho<;>simp at ho;done)
          | (split at ho<;>(try split at ho)<;>simp at ho;done)
        ·right;rw[hS.fix];exact Nat.le_of_ble_eq_true h1) hg q2 (by rw[encT_len];omega) (fun k hk=>by simp at hk) (fun q _=>by rw[omap_nil])
       rw[List.nil_append]at f1
       obtain⟨a,b,c3⟩:=delRs_ok ids hX hS (ownIds_lt hX hids)
       obtain⟨e1,e2,e3,e4⟩:=delRs_env ids X
       have hlr:lk (X.delRs ids).roots r=some (v'',.tr t' xs):=by rw[(delRs_lk ids X r).2 hnr];exact hl
       obtain⟨a',b'⟩:=chg_ok a (x:=.tr t' (lSet xs i e')) (Nat.le_refl _) (show r<(X.delRs ids).next by rw[e2];exact p1) (fun cs hcs=>by simp at hcs)
       have hilt:i<xs.length:=by
        have:=(List.getElem?_eq_some_iff.1 q2).1
        simpa using this
       have hmap:(lSet xs i e').map (encT t')=(xs.map (encT t')).set i (encT t' e'):=by simp [lSet,List.map_set]
       have keyC:∀c',okC X.roots X.next X.stamp c'->cC ((X.delRs ids).setR r (.tr t' (lSet xs i e'))).roots c'=.un\/cC ((X.delRs ids).setR r (.tr t' (lSet xs i e'))).roots c'=killCs m (cC X.roots c'):=by
        intro c' hc'
        have hc2:okC (X.delRs ids).roots (X.delRs ids).next (X.delRs ids).stamp c':=okC.ext b.next b.stamp b.roots hc'
        rcases cC_cons (r:=r) (x:=.tr t' (lSet xs i e')) (.inr (.inr (.inr ⟨t',_,xs,v'',rfl,hlr,by simp [lSet]⟩))) hc2 with h|h
        ·exact .inl h
        ·-- below,it may be dead;else it is as it was
         have hd:cC (X.delRs ids).roots c'=.un\/cC (X.delRs ids).roots c'=cC X.roots c':=by
          clear h f1 f3 f4 c3
          have key2:∀(l:List Nat) (Y:XSt),XOk Y->(∀q∈l,q<Y.next)->okC Y.roots Y.next Y.stamp c'->cC (Y.delRs l).roots c'=.un\/cC (Y.delRs l).roots c'=cC Y.roots c':=by
           intro l
           induction l with
           | nil=>intro Y _ _ _;exact .inr rfl
           | cons q l ih =>
            intro Y hY hl hc
            obtain⟨y1,y2⟩:=chg_ok hY (x:=.gone) (Nat.le_refl _) (hl q List.mem_cons_self) (fun cs h=>by simp at h)
            have hc1:=okC.ext y2.next y2.stamp y2.roots hc
            rcases ih (Y.setR q .gone) y1 (fun z hz=>hl z (List.mem_cons_of_mem _ hz)) hc1 with h|h
            ·exact .inl h
            ·rcases cC_cons (r:=q) (x:=.gone) (.inr (.inl rfl)) hc with g|g
             ·exact .inl (h.trans g)
             ·exact .inr (h.trans g)
          exact key2 ids X hX (ownIds_lt hX hids) hc'
         rcases hd with hd|hd
         ·exact .inl (h.trans hd)
         ·-- kills do not touch it
          have hroot:cC ((X.delRs ids).setR r (.tr t' (lSet xs i e'))).roots c'=cC X.roots c':=h.trans hd
          by_cases hun:cC X.roots c'=.un
          ·left;rw[hroot,hun]
          ·right
           rw[hroot]
           symm
           refine killCs_in ?_ ?_ f2
           ·intro q p s lo n' hq
            cases c' with
            | rw q'=>simp only[cC]at hq;split at hq<;>simp at hq<;>exact .inr (by first|exact hq.2.1|exact hq.2.1.symm)
            | rv q' _ _=>simp only[cC]at hq;split at hq<;>simp at hq<;>exact .inr (by first|exact hq.2.1|exact hq.2.1.symm)
            | rf q' v2 p' lo' t2 ws' =>
             left
             intro hqr
             simp only[cC]at hq
             split at hq
             ·simp only[C.rf.injEq]at hq
              have:q'=r:=hq.1.trans hqr
              subst this
              -- the version is another now
              have hnv:verOk ((X.delRs ids).setR q' (.tr t' (lSet xs i e'))).roots q' v2=false:=by
               simp only[verOk,XSt.setR,lk_cons,if_true]
               cases hbb:Nat.beq (X.delRs ids).stamp v2 with
               | false=>rfl
               | true=>have:=Nat.eq_of_beq_eq_true hbb;have:=hc2.2.1;omega
              have:cC ((X.delRs ids).setR q' (.tr t' (lSet xs i e'))).roots (.rf q' v2 p' lo' t2 ws')=.un:=by simp only[cC,hnv]
              rw[hroot]at this
              exact hun this
             ·simp at hq
            | pe _ _ _ _ _ _ _=>simp only[cC]at hq;split at hq<;>simp at hq
            | pb _ _=>simp only[cC]at hq;split at hq<;>simp at hq
            | _=>simp [cC]at hq
           ·intro q p i' c2 hq
            cases c' with
            | pe q' v2 p' i2 c2' t2 x2 =>
             left
             intro hqr
             simp only[cC]at hq
             split at hq
             ·simp only[C.pe.injEq]at hq
              have:q'=r:=hq.1.trans hqr
              subst this
              have hnv:verOk ((X.delRs ids).setR q' (.tr t' (lSet xs i e'))).roots q' v2=false:=by
               simp only[verOk,XSt.setR,lk_cons,if_true]
               cases hbb:Nat.beq (X.delRs ids).stamp v2 with
               | false=>rfl
               | true=>have:=Nat.eq_of_beq_eq_true hbb;have:=hc2.2.1;omega
              have:cC ((X.delRs ids).setR q' (.tr t' (lSet xs i e'))).roots (.pe q' v2 p' i2 c2' t2 x2)=.un:=by simp only[cC,hnv]
              rw[hroot]at this
              exact hun this
             ·simp at hq
            | rw q'=>simp only[cC]at hq;split at hq<;>simp at hq
            | rv q' _ _=>simp only[cC]at hq;split at hq<;>simp at hq
            | rf _ _ _ _ _ _=>simp only[cC]at hq;split at hq<;>simp at hq
            | pb _ _=>simp only[cC]at hq;split at hq<;>simp at hq
            | _=>simp [cC]at hq
       have hsim:=sim_step (X':=(X.delRs ids).setR r (.tr t' (lSet xs i e'))) (ks:=m) (roots:=roots') hX hS e1 e3 keyC (by
        intro q s z hq
        simp only[XSt.setR]at hq
        rw[lk_cons]at hq
        split at hq
        ·rename_i eq
         simp only at eq;subst eq
         simp only[Option.some.injEq,Prod.mk.injEq]at hq
         obtain⟨_,rfl⟩:=hq
         right
         intro y hy
         simp only[cRt,Option.some.injEq]at hy;subst hy
         refine⟨_,f3,rfl, ?_⟩
         rw[hb2]at henc
         rw[hmap,hds,hb2]
         exact congrArg _ henc.symm
        ·rename_i eq
         by_cases hm:q∈ids
         ·obtain⟨s',hs'⟩:=(delRs_lk ids X q).1 hm
          rw[hs']at hq
          simp only[Option.some.injEq,Prod.mk.injEq]at hq
          obtain⟨_,rfl⟩:=hq
          exact .inr fun y hy=>by simp [cRt]at hy
         ·rw[(delRs_lk ids X q).2 hm]at hq
          exact .inl ⟨hq,f4 q (fun e=>eq e.symm) hm⟩)
       have hpS:S.opd x=.a (.c (.pe r [] i c)):=by rw[opd_c hS hp (by simp [cC,hv])];simp only[cC,hv]
       obtain⟨zs,v1,v2,_⟩:=cells_sim (opd_sim hS v) hys
       have hz:=cd_known s2 v2
       refine⟨_,_,h,a',b.trans b',trivial,e1,.un,m,roots',trivial,hsim,fun hpl=>?_,fun K hK=>?_⟩
       ·have hall:∀y∈ys,∃v,cC X.roots y=.lf v:=by
         intro y hy
         simp only[plainW,hp,hys,List.all_eq_true]at hpl
         have:=hpl y hy
         cases y<;>first|exact⟨_,rfl⟩|simp [isLeafX]at this
        have hm:=f5 hall
        refine⟨hm,fun q s z hq hs=>?_⟩
        simp only[XSt.setR]at hq
        rw[lk_cons]at hq
        split at hq
        ·simp only[Option.some.injEq,Prod.mk.injEq]at hq
         omega
        ·rename_i eq
         by_cases hm2:q∈ids
         ·have hids0:ids=[]:=by
           have key:∀(ys:List XC) (ids:List Nat),ownIds X.roots ys=some ids->(∀y∈ys,isLeafX y=true)->ids=[]:=by
            intro ys
            induction ys with
            | nil=>intro ids h _;simp only[ownIds,Option.some.injEq]at h;exact h.symm
            | cons y ys ih =>
             intro ids h hl
             have h0:=hl y List.mem_cons_self
             simp only[ownIds]at h
             split at h
             ·rename_i h1 h2
              cases y<;>simp [isLeafX]at h0<;>simp [ownX]at h1
             ·rename_i h1 h2
              simp only[Option.some.injEq]at h;subst h
              exact ih _ h2 fun y hy=>hl y (List.mem_cons_of_mem _ hy)
             ·simp at h
           refine key ys ids hids fun y hy=>?_
           simp only[plainW,hp,hys,List.all_eq_true]at hpl
           exact hpl y hy
          rw[hids0]at hm2;simp at hm2
         ·rw[f4 q (fun e=>eq e.symm) hm2,hm,omap_nil]
       simp only[wr,hpS]
       refine⟨zs,v1,by rw[hz];simpa using hb2,encT t' e, ?_,by rw[encT_len];omega,⟨_,_,hg⟩,(roots',m),by rw[hz];exact f1, ?_⟩
       ·simp only[St.node,hg,nodeAt,Option.bind_some];exact q2
       ·rw[hnx,<-e2];exact hK
      ·simp at h
     ·simp at h
    ·simp at h
   ·simp at h
  ·simp at h
 ·simp at h
theorem base_some (hX:XOk X) (hS:SimX X S){x:Opd}{h:Hn}{t:Ty}{xs:List t.den}{ro:Option Nat}(hb:baseX X (X.opd x) h=some ⟨t,xs,ro⟩){sz:Nat}(hz:sz=t.n) (hn:∀n,X.opd x=.a (.c (.nl n))->n=sz) :
  baseOf S.roots (S.opd x)=some (sz,xs.map (encT t),ro)/\(∀r∈oneL ro,r<X.next)/\∀q,q ∉ oneL ro->get (delO S.roots ro) q=get S.roots q:=by
 unfold baseX at hb
 split at hb
 ·rename_i n hx
  split at hb
  ·simp only[Option.some.injEq,Sigma.mk.injEq]at hb
   obtain⟨rfl,hb⟩:=hb
   have hb:=eq_of_heq hb
   simp only[Prod.mk.injEq]at hb
   obtain⟨rfl,rfl⟩:=hb
   refine⟨?_,by simp [oneL],fun q _=>rfl⟩
   rw[opd_c hS hx (by simp [cC])]
   simp only[cC,baseOf,hn n hx]
   rfl
  ·simp at hb
 ·rename_i r hx
  split at hb
  ·rename_i s t' xs' hl
   simp only[Option.some.injEq,Sigma.mk.injEq]at hb
   obtain⟨rfl,hb⟩:=hb
   have hb:=eq_of_heq hb
   simp only[Prod.mk.injEq]at hb
   obtain⟨rfl,rfl⟩:=hb
   obtain⟨z,z1,z2⟩:=hS.roots r s _ hl _ rfl
   have hg:get S.roots r=some (.tr t'.n (xs'.map (encT t'))):=by
    cases z with
    | tr _ _=>obtain⟨rfl,rfl⟩:=z2;exact z1
    | _=>exact z2.elim
   have hxS:S.opd x=.a (.c (.rf r [] t'.n 0 xs'.length)):=by rw[opd_c hS hx (by simp [cC,hl])];simp only[cC,hl]
   refine⟨?_, ?_, ?_⟩
   ·rw[hxS]
    simp only[baseOf,hg,hz,List.length_map,and_self,if_true]
   ·intro q hq
    simp only[oneL,List.mem_singleton]at hq
    subst hq
    exact (hX.ids _ _ _ hl).1
   ·intro q hq
    simp only[oneL,List.mem_singleton]at hq
    simp only[delO]
    rw[get_del,if_neg (fun e=>hq e.symm)]
  ·simp at hb
 ·simp at hb
theorem flat_lf:∀(t:Ty),t.flat=true->∀x:t.den,(encT t x).all isLf=true
 | .I _,_,_=>rfl
 | .Y,_,_=>rfl
 | .B,_,_=>rfl
 | .S,_,_=>rfl
 | .L t,h,_=>by simp [Ty.flat]at h
 | .P a b,h,x=>by
  simp only[Ty.flat,Bool.and_eq_true]at h
  simp only[encT,List.all_append,flat_lf a h.1,flat_lf b h.2,Bool.and_self]
theorem rootOf_c {R:XRs}{c:XC}{ry q:Nat}{p:Path}{s lo n:Nat}(h:rootOfX c=some ry) (hc:cC R c=.rf q p s lo n):ry=q:=by
 cases c with
 | rw r=>simp only[rootOfX,Option.some.injEq]at h;subst h;simp only[cC]at hc;split at hc<;>simp at hc<;>exact hc.1
 | rv r _ _=>simp only[rootOfX,Option.some.injEq]at h;subst h;simp only[cC]at hc;split at hc<;>simp at hc<;>exact hc.1
 | rf r v p lo t ws=>simp only[rootOfX,Option.some.injEq]at h;subst h;simp only[cC]at hc;split at hc<;>simp at hc;exact hc.1
 | _=>simp [rootOfX]at h
theorem strD_enc (l:List UInt8):strD ⟨l.toArray⟩=l.map (encT .Y):=rfl
theorem chunk_enc {t:Ty}:∀(xs:List t.den),chunk t.n xs.length (xs.map (encT t)).flatten=xs.map (encT t)
 | []=>rfl
 | x::xs=>by
  simp only[List.length_cons,chunk,List.map_cons,List.flatten_cons]
  rw[List.take_left' (encT_len t x),List.drop_left' (encT_len t x),chunk_enc xs]
theorem rep_all (n:Nat){l:List C}(h:l.all inC8=true):(rep n l).all inC8=true:=by
 induction n with
 | zero=>rfl
 | succ n ih=>simp only[rep,List.all_append,h,ih,Bool.and_self]
theorem room_some {n sz:Nat}(h:room n sz=true):n*sz<=140737488355328:=by simpa [room] using h
theorem wrX_ok (hX:XOk X) (hS:SimX X S){h:Hn}{j:W}{k:XV->XSt->Option β}(hr:wrX X h j k=some out):WrOk X S j k out:=by
 have hnx:S.next=X.next:=hS.next
 cases j with
 | alloc zero =>
  simp only[wrX]at hr
  split at hr
  ·rename_i hz
   have e:(zero.map fun c=>(X.stamp,ofC c))=((zero.map ofC).map fun c=>(X.stamp,c)):=by simp
   rw[e]at hr
   exact box_new hX hS (ofCs_wk X.roots hz) (by
    intro c hc
    obtain⟨c',_,rfl⟩:=List.mem_map.1 hc
    exact ofC_ok _ _ _ c') (v:=.a (.c (.pb S.next 0))) (pb_wk hnx) (Nat.lt_succ_self _) hr (fun K hK=>hK)
  ·simp at hr
 | box x =>
  simp only[wrX]at hr
  split at hr
  ·rename_i cs hc
   obtain⟨ys,y1,y2,_⟩:=cells_sim (opd_sim hS x) hc
   exact box_new hX hS y2 (cells_okXV (opd_okV hX x) hc) (v:=.a (.c (.pb S.next 0))) (pb_wk hnx) (Nat.lt_succ_self _) hr (fun K hK=>by simp only[wr];exact⟨ys,y1,hK⟩)
  ·simp at hr
 | store n x v=>exact storeX_ok hX hS hr
 | mks sz bytes zero l c =>
  simp only[wrX]at hr
  split at hr
  ·rename_i t z z' hl hc
   split at hr
   ·rename_i hb
    simp only[Bool.and_eq_true]at hb
    have hz:=eqCs_eq hb.1
    have hsz:=Nat.eq_of_beq_eq_true hb.2
    subst hz hsz
    obtain⟨h1,hr⟩:=chk_some hr
    obtain⟨h2,hr⟩:=chk_some hr
    simp only[iEq,beq_iff_eq]at h1
    simp only[mkOk,decide_eq_true_eq]at h2
    subst h1
    obtain⟨k1,e1⟩:=intOf_sim hS hl
    obtain⟨k2,e2⟩:=intOf_sim hS hc
    refine fresh_ok (ids:=[]) hX hS (by simp) (fun r _=>rfl) hr (n:=z'.toNat) (by simp [lRep,nOf]) (fun K hK=>?_)
    simp only[wr,e1,e2]
    refine⟨trivial,h2.1,h2.2.1,h2.2.2,zc_plain t, ?_⟩
    simp only[lRep,nOf,List.map_replicate,<-zc_enc]at hK
    exact hK
   ·simp at hr
  ·simp at hr
 | lit sz len zero parts =>
  simp only[wrX]at hr
  split at hr
  ·rename_i hz
   split at hr
   ·rename_i cs hf
    obtain⟨zs,e1,e2,e3⟩:=fill_sim hX hS (parts.map fun x=>(x.1*sz,sz,x.2)) _ (rep len zero) cs (ofCs_wk X.roots (rep_all len hz)) (by
     intro c hc
     obtain⟨c',_,rfl⟩:=List.mem_map.1 hc
     exact ofC_ok _ _ _ c') hf
    split at hr
    ·exact box_new hX hS e2 e3 (v:=.sb S.next len) (by simp only[cV,newR_lk,hnx];exact⟨rfl,rfl⟩) (Nat.lt_succ_self _) hr (fun K hK=>by simp only[wr];exact .inr ⟨zs,e1,hK⟩)
    ·rename_i t
     split at hr
     ·rename_i ids hids
      split at hr
      ·rename_i hb
       simp only[Bool.and_eq_true]at hb
       have hnd:=nodupN_ok hb.1
       have hsz:=Nat.eq_of_beq_eq_true hb.2
       subst hsz
       obtain⟨xs,hr,hxl,hcd⟩:=readN_ok (nx:=X.next) (st:=X.stamp) len cs _ out e3 hr
       have hzs:=cd_known hcd e2
       obtain⟨rt,f1,f2⟩:=takeAll_sim hS cs _ ids S.roots hcd hids hnd (fun _ _=>rfl)
       refine fresh_ok (roots:=rt) hX hS (ownIds_lt hX hids) (fun r hr=>by rw[f2 r,if_neg hr]) hr (n:=len) hxl.symm (fun K hK=>?_)
       simp only[wr]
       refine .inl ⟨zs,e1,_,by rw[hzs];exact f1, ?_⟩
       rw[<-hxl,chunk_enc]
       rw[<-hxl]at hK
       exact hK
      ·simp at hr
     ·simp at hr
    ·simp at hr
   ·simp at hr
  ·simp at hr
 | s2b x =>
  simp only[wrX]at hr
  split at hr
  ·rename_i l hx
   refine fresh_ok (ids:=[]) (t:=.Y) hX hS (by simp) (fun r _=>rfl) hr (n:=l.length) rfl (fun K hK=>?_)
   simp only[wr,opd_c hS hx (by simp [cC]),cC,strD_enc,str_size]
   exact hK
  ·simp at hr
 | app sz bytes zero x y =>
  simp only[wrX]at hr
  split at hr
  ·rename_i t xs ro n hb hy
   split at hr
   ·rename_i hz
    simp only[Bool.and_eq_true]at hz
    have hsz:=Nat.eq_of_beq_eq_true hz.1
    have hnl:∀n,X.opd x=.a (.c (.nl n))->n=sz:=by
     intro n hn
     have:=hz.2
     rw[hn]at this
     exact Nat.eq_of_beq_eq_true this
    obtain⟨h1,hr⟩:=chk_some hr
    obtain⟨b1,b2,b3⟩:=base_some hX hS hb hsz hnl
    refine fresh_ok (roots:=delO S.roots ro) hX hS b2 b3 hr (n:=xs.length) rfl (fun K hK=>?_)
    simp only[wr,b1,opd_c hS hy (by simp [cC]),cC]
    refine⟨_,rfl,rfl, ?_, ?_⟩
    ·rw[List.length_map];exact room_some h1
    ·rw[List.length_map,hsz];exact hK
   ·simp at hr
  ·rename_i t xs ro c hne hb hy
   have hyo:=opd_okV hX y
   rw[hy]at hyo
   split at hr
   ·rename_i hz
    simp only[Bool.and_eq_true]at hz
    have hsz:=Nat.eq_of_beq_eq_true hz.1
    have hnl:∀n,X.opd x=.a (.c (.nl n))->n=sz:=by
     intro n hn
     have:=hz.2
     rw[hn]at this
     exact Nat.eq_of_beq_eq_true this
    split at hr
    ·rename_i ry hry
     split at hr
     ·simp at hr
     ·rename_i hno
      have hno:ry ∉ oneL ro:=fun hm=>by rw[hasN_mem.2 hm]at hno;simp at hno
      obtain⟨t',ws0,r,p,lo,l,hr,w2,w3,w4,w5,w6⟩:=winX_some hyo hr
      obtain⟨ws,hr,rfl,w7,w8⟩:=cast_some hr
      obtain⟨h1,hr⟩:=chk_some hr
      rw[w7]at w6
      rw[<-w8]at w3 w5 w6
      have hrr:=rootOf_c hry w3
      subst hrr
      obtain⟨b1,b2,b3⟩:=base_some hX hS hb hsz hnl
      have hyS:S.opd y=.a (.c (.rf ry p t'.n lo ws.length)):=by rw[opd_c hS hy (by rw[w3];simp),w3]
      have hro:some ry≠ro:=fun e=>hno (by subst e;simp [oneL])
      have hnode:S.node ry p=some (sz,l):=by rw[node_eq,node_sim hS w4,hsz]
      have happ:∀K:KW,K (.a (.c (.rf S.next [] t'.n 0 (xs.length+ws.length)))) [] ((S.next,.tr t'.n ((lApp xs ws).map (encT t')))::delO S.roots ro) (S.next+1)->allLf (ws.map (encT t'))=true->wr S K (.app sz bytes zero x y):=by
       intro K hK hlf
       simp only[wr,b1,hyS]
       refine⟨_,rfl,rfl,hsz.symm,hro, ?_,l,hnode,w5,.inl ⟨by rw[w6];exact hlf, ?_⟩⟩
       ·rw[List.length_map];exact room_some h1
       ·rw[List.length_map,hsz,w6]
        simp only[lApp,List.map_append]at hK
        exact hK
      split at hr
      ·rename_i hfl
       refine fresh_ok (roots:=delO S.roots ro) hX hS b2 b3 hr (n:=xs.length+ws.length) (by simp [lApp]) (fun K hK=>happ K hK ?_)
       simp only[allLf,List.all_map,List.all_eq_true,Function.comp]
       exact fun z _=>List.all_eq_true.1 (flat_lf t' hfl z)
      ·split at hr
       ·rename_i r' hown
        -- the elements are moved
        have hrr:r'=ry/\∃s t2 xs2,lk X.roots ry=some (s,.tr t2 xs2):=by
         cases c<;>simp only[ownX,reduceCtorEq,Option.some.injEq]at hown
         ·simp only[rootOfX,Option.some.injEq]at hry;subst hry
          split at hown
          ·rename_i hl;simp only[Option.some.injEq]at hown;exact⟨hown.symm,_,_,_,hl⟩
          ·simp at hown
         ·simp only[rootOfX,Option.some.injEq]at hry;subst hry
          split at hown
          ·rename_i hl
           split at hown
           ·simp only[Option.some.injEq]at hown;exact⟨hown.symm,_,_,_,hl⟩
           ·simp at hown
          ·simp at hown
        obtain⟨rfl,s,t2,xs2,hl⟩:=hrr
        obtain⟨z,z1,z2⟩:=hS.roots r' s _ hl _ rfl
        have hg:get S.roots r'=some (.tr t2.n (xs2.map (encT t2))):=by
         cases z with
         | tr _ _=>obtain⟨rfl,rfl⟩:=z2;exact z1
         | _=>exact z2.elim
        refine fresh_ok (roots:=put (delO S.roots ro) r' (.tr t2.n (updNode (xs2.map (encT t2)) p (holeWin lo ws.length)))) (ids:=r'::oneL ro) hX hS (by
         intro q hq
         rcases List.mem_cons.1 hq with rfl|hq
         ·exact (hX.ids _ _ _ hl).1
         ·exact b2 q hq) (by
         intro q hq
         rw[List.mem_cons,not_or]at hq
         rw[get_put,if_neg (fun e=>hq.1 e.symm)]
         exact b3 q hq.2) hr (n:=xs.length+ws.length) (by simp [lApp]) (fun K hK=>?_)
        simp only[wr,b1,hyS]
        refine⟨_,rfl,rfl,hsz.symm,hro, ?_,l,hnode,w5,.inr ⟨_,_,hg, ?_⟩⟩
        ·rw[List.length_map];exact room_some h1
        ·rw[List.length_map,hsz,w6]
         simp only[lApp,List.map_append]at hK
         exact hK
       ·simp at hr
    ·simp at hr
   ·simp at hr
  ·simp at hr
 | aps zero x y =>
  simp only[wrX]at hr
  split at hr
  ·rename_i xs ro l hb hy
   split at hr
   ·rename_i hz
    have hnl:∀n,X.opd x=.a (.c (.nl n))->n=1:=by
     intro n hn
     rw[hn]at hz
     exact Nat.eq_of_beq_eq_true hz
    obtain⟨h1,hr⟩:=chk_some hr
    obtain⟨b1,b2,b3⟩:=base_some hX hS hb (sz:=1) rfl hnl
    refine fresh_ok (t:=.Y) (roots:=delO S.roots ro) hX hS b2 b3 hr (n:=xs.length+l.length) (by simp [lApp]) (fun K hK=>?_)
    simp only[wr,b1,opd_c hS hy (by simp [cC]),cC,str_size,strD_enc]
    refine⟨_,rfl,rfl, ?_, ?_⟩
    ·rw[List.length_map];have:=room_some h1;omega
    ·rw[List.length_map]
     simp only[lApp,List.map_append]at hK
     exact hK
   ·simp at hr
  ·simp at hr
 | clr s z x=>simp [wrX]at hr
 | call f args=>simp [wrX]at hr
 | calv f args=>simp [wrX]at hr
end
end Go.Vs
namespace Go.Vs
variable [Glb]
@[reducible] def Tp:List Ty->Type
 | []=>Unit
 | [t]=>t.den
 | t::u::ts=>t.den×Tp (u::ts)
def Tp.hd:(t:Ty)->(ts:List Ty)->Tp (t::ts)->t.den
 | _,[],x=>x
 | _,_::_,x=>x.1
def Tp.tl:(t:Ty)->(ts:List Ty)->Tp (t::ts)->Tp ts
 | _,[],_=>()
 | _,_::_,x=>x.2
def Tp.mk:(t:Ty)->(ts:List Ty)->t.den->Tp ts->Tp (t::ts)
 | _,[],x,_=>x
 | _,_::_,x,y=>(x,y)
theorem Tp.hd_mk {t:Ty}:∀{ts:List Ty}(x:t.den) (y:Tp ts),Tp.hd t ts (Tp.mk t ts x y)=x
 | [],_,_=>rfl
 | _::_,_,_=>rfl
theorem Tp.tl_mk {t:Ty}:∀{ts:List Ty}(x:t.den) (y:Tp ts),Tp.tl t ts (Tp.mk t ts x y)=y
 | [],_,_=>rfl
 | _::_,_,_=>rfl
inductive XD where
 | lf (c:XC)
 | sl (t:Ty) (xs:List t.den)
def encD:XD->D
 | .lf (.i k z)=>.lf (.int k z)
 | .lf (.y b)=>.lf (.int .u8 b.toNat)
 | .lf (.b x)=>.lf (.bool x)
 | .lf (.s l)=>.lf (.string ⟨l.toArray⟩)
 | .lf _=>.hole
 | .sl t xs=>.sl t.n (xs.map (encT t))
def tcells:(t:Ty)->t.den->List XD
 | .I k,z=>[.lf (.i k z)]
 | .Y,b=>[.lf (.y b)]
 | .B,x=>[.lf (.b x)]
 | .S,l=>[.lf (.s l)]
 | .L t,xs=>[.sl t xs]
 | .P a b,x=>tcells a x.1++tcells b x.2
theorem tcells_enc:∀(t:Ty) (x:t.den),(tcells t x).map encD=encT t x
 | .I _,_=>rfl
 | .Y,_=>rfl
 | .B,_=>rfl
 | .S,_=>rfl
 | .L _,_=>rfl
 | .P a b,x=>by simp only[tcells,List.map_append,tcells_enc a,tcells_enc b,encT]
def leafC:XC->XC
 | .i k z=>.i k z
 | .y b=>.y b
 | .b x=>.b x
 | .s l=>.s l
 | _=>.un
def newXs:List XD->XSt->List XC×XSt
 | [],X=>([],X)
 | .lf c::l,X=>(leafC c::(newXs l X).1,(newXs l X).2)
 | .sl t xs::l,X=>(.rw X.next::(newXs l (X.newR (.tr t xs))).1,(newXs l (X.newR (.tr t xs))).2)
def resCells:(rs:List (Bool×Ty))->Tp (rs.map (·.2))->List XD
 | [],_=>[]
 | (_,t)::rs,y=>tcells t (Tp.hd t _ y)++resCells rs (Tp.tl t _ y)
def resAs:List (Bool×Ty)->List XC->List XA
 | [],_=>[]
 | (ag,t)::rs,cs=>(match ag with
  | true=>.ag (cs.take t.n)
  | false=>match cs.take t.n with
   | [c]=>.c c
   | _=>.ag [])::resAs rs (cs.drop t.n)
def resX:List XA->XV
 | [x]=>.a x
 | xs=>.tp xs
def argsD:(as:List (Bool×Ty))->Tp (as.map (·.2))->List (Bool×List D)
 | [],_=>[]
 | (ag,t)::as,x=>(ag,encT t (Tp.hd t _ x))::argsD as (Tp.tl t _ x)
structure SEnt (P:Program) where
 f:FuncId
 args:List (Bool×Ty)
 res:List (Bool×Ty)
 F:Tp (args.map (·.2))->Option (Tp (res.map (·.2)))
 ok:∀x y,F x=some y->Runs P f ((argsD args x).map mkArg) ⟨argsD res y,[],[]⟩
def argS {β:Type}(R:XRs) (ag:Bool) (t:Ty) (v:XV) (f:t.den->Option β):Option β:=match ag,v with
 | false,.a (.c c)=>readT R t [c] fun x rest=>match rest with
  | []=>f x
  | _=>none
 | true,.a (.ag cs)=>readT R t cs fun x rest=>match rest with
  | []=>f x
  | _=>none
 | false,.sb r n=>match t,f with
  | .L t',f=>match lk R r with
   | some (_,.bx cs)=>match Nat.beq t'.n 1&&Nat.beq cs.length n with
    | true=>readN R t' n (cs.map (·.2)) f
    | false=>none
   | _=>none
  | _,_=>none
 | _,_=>none
def getS {β:Type}(R:XRs):(as:List (Bool×Ty))->List XV->(Tp (as.map (·.2))->Option β)->Option β
 | [],[],k=>k ()
 | (ag,t)::as,v::vs,k=>argS R ag t v fun x=>getS R as vs fun xs=>k (Tp.mk t _ x xs)
 | _,_,_=>none
def seeX {P:Program}{β:Type}(X:XSt) (e:SEnt P) (vs:List XV) (k:XV->XSt->Option β):Option β :=
 getS X.roots e.args vs fun x=>bnd (e.F x) fun y=>k (resX (resAs e.res (newXs (resCells e.res y) X).1)) (newXs (resCells e.res y) X).2
theorem newXs_ok : ∀ (l : List XD) {X : XSt} {E : List (Nat × V)} {R : List (Nat × Root)} {f : Nat}, XOk X → SimX X ⟨E, R, X.next, f⟩ →
    XOk (newXs l X).2 ∧ Ext X (newXs l X).2 ∧ (newXs l X).2.env = X.env ∧ (newXs l X).2.next = (newCs (l.map encD) X.next).2.2 ∧ SimX (newXs l X).2 ⟨E, (newCs (l.map encD) X.next).2.1 ++ R, (newXs l X).2.next, f⟩ ∧
    All2 WkC (newCs (l.map encD) X.next).1 ((newXs l X).1.map (cC (newXs l X).2.roots)) ∧ ∀ c ∈ (newXs l X).1, okC (newXs l X).2.roots (newXs l X).2.next (newXs l X).2.stamp c
  | [], X, E, R, f, hX, hS => ⟨hX, Ext.refl X, rfl, rfl, hS, trivial, by simp [newXs]⟩
  | .lf c :: l, X, E, R, f, hX, hS => by
    obtain ⟨a, b, e, n, s, w, o⟩ := newXs_ok l hX hS
    cases c <;> refine ⟨a, b, e, n, s, ?_, ?_⟩ <;> first
      | exact ⟨WkC.refl _, w⟩
      | exact ⟨.inr rfl, w⟩
      | (intro c hc
         simp only [newXs, List.mem_cons] at hc
         rcases hc with rfl | hc
         · trivial
         · exact o c hc)
  | .sl t xs :: l, X, E, R, f, hX, hS => by
    obtain ⟨a1, b1, s1⟩ := newR_ok (x := .tr t xs) (y := .tr t.n (xs.map (encT t))) hX hS (fun cs h => by simp at h) ⟨_, rfl, rfl, rfl⟩
    obtain ⟨a, b, e, n, s, w, o⟩ := newXs_ok l a1 s1
    have hlt : ∀ q y, get (newCs (l.map encD) (X.next + 1)).2.1 q = some y → X.next + 1 ≤ q := fun q y h => (newCs_le _ _).2 _ (mem_of_get h) |>.1
    refine ⟨a, b1.trans b, e, n, ?_, ⟨?_, w⟩, ?_⟩
    · refine sim_roots s ?_
      intro r st x hl hx
      have e1 : (newCs ((XD.sl t xs :: l).map encD) X.next).2.1 = (X.next, .tr t.n (xs.map (encT t))) :: (newCs (l.map encD) (X.next + 1)).2.1 := rfl
      rw [e1]
      have e2 : (X.newR (.tr t xs)).next = X.next + 1 := rfl
      rw [e2]
      simp only [List.cons_append, get]
      split
      · rename_i h
        subst h
        rw [get_append]
        cases hg : get (newCs (l.map encD) (X.next + 1)).2.1 X.next with
        | some y => have := hlt _ _ hg; omega
        | none => simp only [get, if_true]
      · rename_i h
        rw [get_append, get_append]
        cases hg : get (newCs (l.map encD) (X.next + 1)).2.1 r with
        | some y => rfl
        | none => simp only [get]; rw [if_neg h]
    · have hk := newR_lk X (.tr t xs)
      -- the new root may only stay
      left
      have : lk (newXs l (X.newR (.tr t xs))).2.roots X.next = some (X.stamp, .tr t xs) := by
        have key : ∀ (l : List XD) (Y : XSt) (q : Nat), q < Y.next → lk (newXs l Y).2.roots q = lk Y.roots q := by
          intro l
          induction l with
          | nil => intro Y q _; rfl
          | cons d l ih =>
            intro Y q hq
            cases d with
            | lf c => exact ih Y q hq
            | sl t' ys =>
              show lk (newXs l (Y.newR (.tr t' ys))).2.roots q = _
              rw [ih (Y.newR (.tr t' ys)) q (Nat.lt_succ_of_lt hq)]
              simp only [XSt.newR]; rw [lk_cons, if_neg (by simp only; omega)]
        rw [key l _ _ (Nat.lt_succ_self X.next)]
        exact hk
      show cC (newXs l (X.newR (.tr t xs))).2.roots (.rw X.next) = .rf X.next [] t.n 0 (xs.map (encT t)).length
      simp only [cC, this, List.length_map]
    · intro c hc
      have e3 : (newXs (.sl t xs :: l) X).1 = .rw X.next :: (newXs l (X.newR (.tr t xs))).1 := rfl
      rw [e3] at hc
      rcases List.mem_cons.1 hc with rfl | hc
      · show X.next < _
        exact Nat.lt_of_lt_of_le (Nat.lt_succ_self X.next) b.next
      · exact o c hc
theorem resCells_enc:∀(rs:List (Bool×Ty)) (y:Tp (rs.map (·.2))),(resCells rs y).map encD=(argsD rs y).flatMap (·.2)
 | [],_=>rfl
 | (ag,t)::rs,y=>by simp only[resCells,List.map_append,tcells_enc,resCells_enc rs,argsD,List.flatMap_cons]
theorem resAs_wk {R:XRs}:∀(rs:List (Bool×Ty)) (y:Tp (rs.map (·.2))) (us:List C) (cs:List XC),All2 WkC us (cs.map (cC R))->cs.length=((argsD rs y).flatMap (·.2)).length->All2 WkA (newRes (argsD rs y) us) ((resAs rs cs).map (cA R))
 | [],_,_,_,_,_=>trivial
 | (ag,t)::rs,y,us,cs,h,hl=>by
  simp only[argsD,newRes,resAs,List.map_cons]
  have hn:=encT_len t (Tp.hd t _ y)
  refine⟨?_, ?_⟩
  ·rw[hn]
   have ht:=wk_take (n:=t.n) h
   rw[<-List.map_take]at ht
   cases ag with
   | true=>simp only[newA,if_true];exact ht
   | false =>
    simp only[newA,Bool.false_eq_true,if_false]
    match h1:us.take t.n,h2:cs.take t.n with
    | [],[]=>trivial
    | [u],[c]=>rw[h1,h2]at ht;exact ht.1
    | [],_::_=>rw[h1,h2]at ht;exact ht.elim
    | _::_,[]=>rw[h1,h2]at ht;exact ht.elim
    | [_],_::_::_=>rw[h1,h2]at ht;exact ht.2.elim
    | _::_::_,[_]=>rw[h1,h2]at ht;exact ht.2.elim
    | _::_::_,_::_::_=>trivial
  ·rw[hn]
   have hd:=wk_drop (n:=t.n) h
   rw[<-List.map_drop]at hd
   refine resAs_wk rs _ _ _ hd ?_
   simp only[argsD,List.flatMap_cons,List.length_append,hn]at hl
   rw[List.length_drop,hl]
   omega
theorem resX_wk {R:XRs}{ys:List A}{xs:List XA}(h:All2 WkA ys (xs.map (cA R))):WkV (resV ys) (cV R (resX xs)):=by
 match ys,xs,h with
 | [],[],_=>exact trivial
 | [y],[x],h=>exact h.1
 | y::y'::ys,x::x'::xs,h=>exact h
 | [_],_::_::_,h=>exact h.2.elim
 | _::_::_,[_],h=>exact h.2.elim
theorem resAs_ok {R:XRs}{nx st:Nat}:∀(rs:List (Bool×Ty)) (cs:List XC),(∀c∈cs,okC R nx st c)->∀x∈resAs rs cs,okA R nx st x
 | [],_,_,x,hx=>by simp [resAs]at hx
 | (ag,t)::rs,cs,h,x,hx=>by
  simp only[resAs,List.mem_cons]at hx
  rcases hx with rfl|hx
  ·cases ag with
   | true=>exact fun c hc=>h c (List.mem_of_mem_take hc)
   | false =>
    simp only
    split
    ·rename_i c hc
     exact h c (List.mem_of_mem_take (i:=t.n) (by rw[hc];exact List.mem_cons_self))
    ·exact fun c hc=>by simp at hc
  ·exact resAs_ok rs _ (fun c hc=>h c (List.mem_of_mem_drop hc)) x hx
theorem resX_okV {R:XRs}{nx st:Nat}{xs:List XA}(h:∀x∈xs,okA R nx st x):okV R nx st (resX xs):=by
 match xs,h with
 | [],_=>exact fun x hx=>by simp at hx
 | [x],h=>exact h x List.mem_cons_self
 | x::y::l,h=>exact h
section
variable {β:Type} {X:XSt} {S:St} {out:β} {P:Program}
theorem cd_sees (hS:SimX X S){c:XC}{d:D}(h:CD X.roots c d):seesC S.roots (cC X.roots c) d:=by
 rcases h with ⟨v,h1,rfl⟩|⟨n,rfl,rfl⟩|⟨t,ws,r,p,lo,l,h1,h2,h3,h4,rfl,h6⟩
 ·rw[h1];rfl
 ·exact⟨rfl,rfl⟩
 ·rw[h1];exact⟨rfl,h6,l,node_sim hS h2,h3,h4.symm⟩
theorem cds_sees (hS:SimX X S):∀{cs:List XC}{ds:List D},All2 (CD X.roots) cs ds->All2 (seesC S.roots) (cs.map (cC X.roots)) ds
 | [],[],_=>trivial
 | _::_,_::_,h=>⟨cd_sees hS h.1,cds_sees hS h.2⟩
 | [],_::_,h=>h.elim
 | _::_,[],h=>h.elim
theorem argS_ok (hX:XOk X) (hS:SimX X S){ag:Bool}{t:Ty}{v:XV}{y:V}{f:t.den->Option β}(hw:WkV y (cV X.roots v)) (ho:okV X.roots X.next X.stamp v) (h:argS X.roots ag t v f=some out):∃x,f x=some out/\seesV S.roots y (ag,encT t x):=by
 unfold argS at h
 split at h
 ·rename_i c
  obtain⟨x,c0,rest,hc,h,hcd⟩:=readT_ok (nx:=X.next) (st:=X.stamp) t [c] _ out (fun c' hc=>by simp only[List.mem_singleton]at hc;subst hc;exact ho) h
  split at h
  ·rw[List.append_nil]at hc
   subst hc
   refine⟨x,h, ?_⟩
   match hd:encT t x,hcd with
   | [d],hcd =>
    rw[hw.c hcd.1.ne]
    exact cd_sees hS hcd.1
  ·simp at h
 ·rename_i cs
  obtain⟨x,c0,rest,hc,h,hcd⟩:=readT_ok (nx:=X.next) (st:=X.stamp) t cs _ out ho h
  split at h
  ·rw[List.append_nil]at hc
   subst hc
   refine⟨x,h, ?_⟩
   cases y with
   | a z=>cases z with
    | ag ys =>
     have:=cd_known hcd hw
     subst this
     exact cds_sees hS hcd
    | c _=>exact hw.elim
   | _=>exact hw.elim
  ·simp at h
 ·rename_i r n
  split at h
  ·rename_i t' f
   split at h
   ·rename_i s cs hl
    split at h
    ·rename_i hb
     simp only[Bool.and_eq_true]at hb
     have hb1:=Nat.eq_of_beq_eq_true hb.1
     have hb2:=Nat.eq_of_beq_eq_true hb.2
     obtain⟨xs,h,hxl,hcd⟩:=readN_ok (nx:=X.next) (st:=X.stamp) n _ _ out (by
      intro c hc
      obtain⟨e,he,rfl⟩:=List.mem_map.1 hc
      exact (hX.box r s cs hl e he).2) h
     refine⟨xs,h, ?_⟩
     simp only[cV,hl]at hw
     cases y with
     | sb r' n' =>
      obtain⟨rfl,rfl⟩:=hw
      obtain⟨bs,g1,g2⟩:=box_sim hS hl
      have g3:All2 WkC bs ((cs.map (·.2)).map (cC X.roots)):=by rw[List.map_map];exact g2
      have:=cd_known hcd g3
      subst this
      simp only[encT,hb1]
      refine⟨_,g1,by simpa using hb2,by simp [hxl], ?_⟩
      clear h g1 g2 g3 hl hb2 hxl hb ho
      have key:∀(us:List XC) (xs:List t'.den),All2 (CD X.roots) us (xs.map (encT t')).flatten->All2 (fun c e=>∃d,e=[d]/\seesC S.roots c d) (us.map (cC X.roots)) (xs.map (encT t')):=by
       intro us xs
       induction xs generalizing us with
       | nil=>intro h;cases us with
        | nil=>trivial
        | cons _ _=>exact h.elim
       | cons x xs ih =>
        intro h
        simp only[List.map_cons,List.flatten_cons]at h ⊢
        have hx:=encT_len t' x
        rw[hb1]at hx
        match he:encT t' x,hx with
        | [d],_ =>
         rw[he]at h
         match us,h with
         | u::us,h=>exact⟨⟨d,rfl,cd_sees hS h.1⟩,ih us h.2⟩
      exact key _ _ hcd
     | _=>exact hw.elim
    ·simp at h
   ·simp at h
  ·simp at h
 ·simp at h
theorem getS_ok (hX:XOk X) (hS:SimX X S):∀(as:List (Bool×Ty)) (vs:List XV) (ys:List V) (k:Tp (as.map (·.2))->Option β),All2 (fun y v=>WkV y (cV X.roots v)/\okV X.roots X.next X.stamp v) ys vs->getS X.roots as vs k=some out ->
  ∃x,k x=some out/\All2 (seesV S.roots) ys (argsD as x)
 | [],[],[],k,_,h=>⟨(),h,trivial⟩
 | (ag,t)::as,v::vs,y::ys,k,hw,h=>by
  simp only[getS]at h
  obtain⟨x,h,h1⟩:=argS_ok hX hS hw.1.1 hw.1.2 h
  obtain⟨xs,h,h2⟩:=getS_ok hX hS as vs ys _ hw.2 h
  refine⟨_,h, ?_⟩
  simp only[argsD,Tp.hd_mk,Tp.tl_mk]
  exact⟨h1,h2⟩
 | [],_::_,_,_,_,h=>by simp [getS]at h
 | _::_,[],_,_,_,h=>by simp [getS]at h
 | [],[],_::_,_,h,_=>h.elim
 | _::_,_::_,[],_,h,_=>h.elim
def ClT {β:Type}(X:XSt) (S:St) (T:KW->Prop) (k:XV->XSt->Option β) (out:β):Prop :=
 ∃xv X',k xv X'=some out/\XOk X'/\Ext X X'/\okV X'.roots X'.next X'.stamp xv/\X'.env=X.env /\
  ∃v ks roots,WkV v (cV X'.roots xv)/\SimX X' ⟨killEnv ks S.env,roots,X'.next,S.fix⟩/\(ks=[]/\∀r s x,lk X'.roots r=some (s,x)->s<X.stamp->get roots r=get S.roots r)/\∀K:KW,K v ks roots X'.next->T K
theorem ClT.mono {β:Type}{X:XSt}{S:St}{T T':KW->Prop}{k:XV->XSt->Option β}{out:β}(h:ClT X S T k out) (ht:∀K,T K->T' K):ClT X S T' k out:=by
 obtain⟨a,b,c,d,e,f,g,h1,h2,h3,h4,h5,h6,h7⟩:=h
 exact⟨a,b,c,d,e,f,g,h1,h2,h3,h4,h5,h6,fun K hK=>ht K (h7 K hK)⟩
abbrev ClOk {β:Type} (P:Program) (X:XSt) (S:St) (f:FuncId) (args:List Opd) (k:XV->XSt->Option β) (out:β):Prop:=ClT X S (fun K=>evJ P S K (.wr (.call f args))) k out
theorem args_sim (hX:XOk X) (hS:SimX X S):∀args:List Opd,All2 (fun y v=>WkV y (cV X.roots v)/\okV X.roots X.next X.stamp v) (args.map S.opd) (args.map X.opd)
 | []=>trivial
 | x::l=>⟨⟨opd_sim hS x,opd_okV hX x⟩,args_sim hX hS l⟩
theorem argsD_len (rs:List (Bool×Ty)) (y:Tp (rs.map (·.2))):((resCells rs y).map encD).length=((argsD rs y).flatMap (·.2)).length:=by rw[resCells_enc]
theorem newXs_len:∀(l:List XD) (X:XSt),(newXs l X).1.length=l.length
 | [],_=>rfl
 | .lf c::l,X=>by simp only[newXs,List.length_cons,newXs_len l]
 | .sl t xs::l,X=>by simp only[newXs,List.length_cons,newXs_len l]
theorem seeV_ok (hX:XOk X) (hS:SimX X S){e:SEnt P}{vs:List XV}{ys:List V}(hv:All2 (fun y v=>WkV y (cV X.roots v)/\okV X.roots X.next X.stamp v) ys vs){k:XV->XSt->Option β}(h:seeX X e vs k=some out):ClT X S (fun K=>callSee P S e.f ys K) k out:=by
 unfold seeX at h
 obtain⟨x,h,h1⟩:=getS_ok hX hS e.args _ _ _ hv h
 obtain⟨y,hy,h⟩:=bnd_some h
 have hnx:S.next=X.next:=hS.next
 have hS':SimX X ⟨S.env,S.roots,X.next,S.fix⟩:=⟨rfl,hS.fix,hS.env,hS.roots⟩
 obtain⟨a,b,c,d,s,w,o⟩:=newXs_ok (resCells e.res y) hX hS'
 rw[resCells_enc]at d s w
 refine⟨_,_,h,a,b,resX_okV (resAs_ok _ _ o),c,resV (newRes (argsD e.res y) (newCs ((argsD e.res y).flatMap (·.2)) S.next).1),[],(newCs ((argsD e.res y).flatMap (·.2)) S.next).2.1++S.roots, ?_, ?_,⟨rfl,fun r st z hl hs=>?_⟩, ?_⟩
 ·rw[hnx]
  exact resX_wk (resAs_wk _ _ _ _ w (by rw[newXs_len,<-argsD_len,List.length_map]))
 ·rw[killEnv_nil,hnx];exact s
 ·have h0:=b.roots r st z hl hs
  have hlt:=(hX.ids r st z h0).1
  rw[get_append]
  cases hg:get (newCs ((argsD e.res y).flatMap (·.2)) S.next).2.1 r with
  | none=>rfl
  | some w'=>have:=((newCs_le _ _).2 _ (mem_of_get hg)).1;simp only at this;omega
 ·intro K hK
  refine⟨_,_,e.ok x y hy,h1, ?_⟩
  rw[hnx];rw[hnx,d]at hK
  exact hK
theorem seeX_ok (hX:XOk X) (hS:SimX X S){e:SEnt P}{args:List Opd}{k:XV->XSt->Option β}(h:seeX X e (args.map X.opd) k=some out):ClOk P X S e.f args k out :=
 (seeV_ok hX hS (args_sim hX hS args) h).mono fun K h=>.inr (.inl h)
end
end Go.Vs
namespace Go.Vs
variable [Glb]
def concR (R:XRs):XRs->List (Nat×Root)
 | []=>[]
 | e::l=>match cRt R e.2.2 with
  | some y=>(e.1,y)::concR R l
  | none=>del (concR R l) e.1
def concS (X:XSt):St:=⟨X.env.map fun e=>(e.1,cV X.roots e.2.2),concR X.roots X.roots,X.next,X.fix⟩
theorem get_concR (R:XRs):∀(l:XRs) (r:Nat),get (concR R l) r=match lk l r with|some (_,x)=>cRt R x|none=>none
 | [],r=>rfl
 | (q,s,x)::l,r=>by
  simp only[concR,lk_cons]
  cases hx:cRt R x with
  | some y =>
   simp only[get]
   split
   ·simp only[hx]
   ·exact get_concR R l r
  | none =>
   rw[get_del]
   split
   ·simp only[hx]
   ·exact get_concR R l r
theorem get_concE (R:XRs):∀(l:List (Nat×Nat×XV)) (t:Nat),get (l.map fun e=>(e.1,cV R e.2.2)) t=(lk l t).map fun e=>cV R e.2
 | [],t=>rfl
 | (q,s,x)::l,t=>by
  simp only[List.map_cons,get,lk_cons]
  split
  ·rfl
  ·exact get_concE R l t
theorem WkR.refl:∀x:Root,(∀cs,x≠.ib cs)->WkR x x
 | .tr _ _,_=>⟨rfl,rfl⟩
 | .im _ _,_=>⟨rfl,rfl⟩
 | .bx cs,_=>All2.refl WkC.refl cs
 | .ib cs,h=>(h cs rfl).elim
theorem sim_conc (X:XSt):SimX X (concS X):=by
 refine⟨rfl,rfl, ?_, ?_⟩
 ·intro t s v hl
  exact .inr ⟨cV X.roots v,by simp only[concS,get_concE,hl];rfl,WkV.refl _⟩
 ·intro r s x hl y hy
  refine⟨y,by simp only[concS,get_concR,hl];exact hy,WkR.refl y fun cs e=>?_⟩
  subst e
  cases x<;>simp [cRt]at hy
theorem crW {pl:Pls}{nx:Nat}{y x:C}{v:Value}(h:CR pl nx y v) (w:WkC y x):CR pl nx x v:=by
 rcases w with rfl|rfl
 ·exact h
 ·exact CR.one h
theorem crsW {pl:Pls}{nx:Nat}:∀{ys xs:List C}{vs:List Value},All2 (CR pl nx) ys vs->All2 WkC ys xs->All2 (CR pl nx) xs vs
 | [],[],[],_,_=>trivial
 | _::_,_::_,_::_,h,w=>⟨crW h.1 w.1,crsW h.2 w.2⟩
 | [],[],_::_,h,_=>h.elim
 | [],_::_,_,_,w=>w.elim
 | _::_,[],_,_,w=>w.elim
 | _::_,_::_,[],h,_=>h.elim
theorem arW {pl:Pls}{nx:Nat}{y x:A}{v:Value}(h:AR pl nx y v) (w:WkA y x):AR pl nx x v:=by
 cases y with
 | c y=>cases x with
  | c x=>exact crW h w
  | ag _=>exact w.elim
 | ag ys=>cases x with
  | c _=>exact w.elim
  | ag xs=>obtain⟨vs,rfl,h⟩:=h;exact⟨vs,rfl,crsW h w⟩
theorem arsW {pl:Pls}{nx:Nat}:∀{ys xs:List A}{vs:List Value},All2 (AR pl nx) ys vs->All2 WkA ys xs->All2 (AR pl nx) xs vs
 | [],[],[],_,_=>trivial
 | _::_,_::_,_::_,h,w=>⟨arW h.1 w.1,arsW h.2 w.2⟩
 | [],[],_::_,h,_=>h.elim
 | [],_::_,_,_,w=>w.elim
 | _::_,[],_,_,w=>w.elim
 | _::_,_::_,[],h,_=>h.elim
theorem vrW {pl:Pls}{nx:Nat}{y x:V}{v:Value}(h:VR pl nx y v) (w:WkV y x):VR pl nx x v:=by
 cases x with
 | un=>trivial
 | a x=>cases y with
  | a y=>exact arW h w
  | _=>exact w.elim
 | tp xs=>cases y with
  | tp ys=>obtain⟨vs,rfl,h⟩:=h;exact⟨vs,rfl,arsW h w⟩
  | _=>exact w.elim
 | fn f c=>cases y with
  | fn g d=>obtain⟨rfl,w⟩:=w;obtain⟨vs,rfl,h⟩:=h;exact⟨vs,rfl,arsW h w⟩
  | _=>exact w.elim
 | sb r n=>cases y with
  | sb r' n'=>obtain⟨rfl,rfl⟩:=w;exact h
  | _=>exact w.elim
theorem rootW {st:Nat->Nat->Prop}{w:World}{g:Lab}{pl:Pls}{nx r:Nat}{y x:Root}(h:RootOk st w g pl nx r y) (k:WkR y x):RootOk st w g pl nx r x:=by
 cases y with
 | tr s e=>cases x with
  | tr _ _=>obtain⟨rfl,rfl⟩:=k;exact h
  | _=>exact k.elim
 | im s e=>cases x with
  | im _ _=>obtain⟨rfl,rfl⟩:=k;exact h
  | _=>exact k.elim
 | bx ys=>cases x with
  | bx xs =>
   intro c x hx
   obtain⟨y,hy,hw⟩:=wk_get k hx
   obtain⟨v,a,b,l,f⟩:=h c y hy
   exact⟨v,a,crW b hw,l,f⟩
  | _=>exact k.elim
 | ib _=>cases x<;>exact k.elim
theorem Le.ren2 {S T:St}(s:List (Nat×Nat)) (hf:T.fix=S.fix) (hok:okRen s T.next S.fix=true) (he:∀t x,get T.env t=some x->x=.un\/∃y,get S.env t=some y/\WkV (y.map (renC s)) x)
  (hr:∀r x,get T.roots r=some x->∃r0 y,get S.roots r0=some y/\get s r0=some r/\WkR (renRoot s y) x):Le S T:=⟨hf,fun N w0 own0 pl0 g pl a w hR=>by
 simp only[okRen,Bool.and_eq_true,decide_eq_true_eq,List.all_eq_true,Bool.or_eq_true,beq_iff_eq]at hok
 obtain⟨⟨hnd,hall⟩,hle⟩:=hok
 obtain⟨h1,h2,h3,h4⟩:=hR
 obtain⟨a1,a2,a3,a4,a5,a6⟩:=h1
 have hk:∀r r',get s r=some r'->r'<T.next/\∀p,(fun r p=>pl (invN s r) p) r' p=pl r p:=fun r r' h=>⟨(hall _ (get_mem h)).1,fun p=>by simp only[invN_get hnd h]⟩
 refine⟨fun b o=>(g b o).bind fun x=>(get s x.1).map fun r'=>(r',x.2),fun r p=>pl (invN s r) p,⟨⟨a1, ?_, ?_, ?_,Nat.le_refl _, ?_⟩,h2,h3, ?_⟩⟩
 ·intro b o x hx
  simp only[Option.bind_eq_some_iff,Option.map_eq_some_iff]at hx
  obtain⟨y,hy,r',hr',rfl⟩:=hx
  obtain⟨b1,b2,_⟩:=a2 b o y hy
  exact⟨b1,b2,(hk _ _ hr').1⟩
 ·intro r p hlt
  rw[hf]at hlt
  have:invN s r=r:=invN_fix fun x hx e=>by
   rcases (hall x hx).2 with h|h
   ·omega
   ·omega
  simp only[this]
  exact a3 r p hlt
 ·rw[hf];exact hle
 ·intro r x hx
  obtain⟨r0,y,h5,h6,h7⟩:=hr r x hx
  refine⟨(hk _ _ h6).1,rootW ((a6 r0 y h5).2.ren hk ?_ h6) h7⟩
  intro b o r1 p r2 h7 h8
  simp only[h7,Option.bind_some,h8,Option.map_some]
 ·intro t x hx
  rcases he t x hx with rfl|⟨y,hy,hw⟩
  ·trivial
  ·exact vrW (VR.killed (fun z u hz=>hz.ren hk) (h4 t y hy)) hw⟩
inductive Bc where
 | K
 | U
 | L (t:Ty)
 | O (t:Ty)
inductive It where
 | kt (t:Nat)
 | lt (t:Nat) (ty:Ty)
 | ot (t:Nat) (ty:Ty)
 | bx (t:Nat) (cs:List Bc)
 | sr (t:Nat) (ty:Ty)
def Bc.tys:List Bc->List Ty
 | []=>[]
 | .K::m=>Bc.tys m
 | .U::m=>Bc.tys m
 | .L t::m=>t::Bc.tys m
 | .O t::m=>Ty.L t::Bc.tys m
def appT:List Ty->List Ty->List Ty
 | [],m=>m
 | t::l,m=>t::appT l m
def It.tys:List It->List Ty
 | []=>[]
 | .kt _::l=>It.tys l
 | .lt _ t::l=>t::It.tys l
 | .ot _ t::l=>.L t::It.tys l
 | .bx _ cs::l=>appT (Bc.tys cs) (It.tys l)
 | .sr _ t::l=>.L t::It.tys l
abbrev Sg:=(t:Ty)×t.den
def spread:(ts:List Ty)->Tp ts->List Sg
 | [],_=>[]
 | t::ts,x=>⟨t,Tp.hd t ts x⟩::spread ts (Tp.tl t ts x)
def coll {β:Type}:(ts:List Ty)->List Sg->(Tp ts->Option β)->Option β
 | [],[],k=>k ()
 | t::ts,x::l,k=>if h:x.1=t then coll ts l fun xs=>k (Tp.mk t ts (h ▸ x.2) xs) else none
 | _,_,_=>none
theorem coll_some {β:Type}{out:β}:∀(ts:List Ty) (l:List Sg) (k:Tp ts->Option β),coll ts l k=some out->∃x,k x=some out/\spread ts x=l
 | [],[],k,h=>⟨(),h,rfl⟩
 | t::ts,x::l,k,h=>by
  simp only[coll]at h
  split at h
  ·rename_i e
   obtain⟨xs,h,h1⟩:=coll_some ts l _ h
   refine⟨_,h, ?_⟩
   obtain⟨t',x⟩:=x
   simp only at e
   subst e
   simp only[spread,Tp.hd_mk,Tp.tl_mk,h1]
  ·simp at h
 | [],_::_,_,h=>by simp [coll]at h
 | _::_,[],_,h=>by simp [coll]at h
def leafS:Sg->XC
 | ⟨.I k,z⟩=>.i k z
 | ⟨.Y,b⟩=>.y b
 | ⟨.B,x⟩=>.b x
 | ⟨.S,l⟩=>.s l
 | ⟨_,_⟩=>.un
def pkL (c:XC) (ty:Ty):Option Sg:=match ty,c with
 | .I k,.i k' z=>match kEq k k' with
  | true=>some ⟨.I k,z⟩
  | false=>none
 | .Y,.y b=>some ⟨.Y,b⟩
 | .B,.b x=>some ⟨.B,x⟩
 | .S,.s l=>some ⟨.S,l⟩
 | _,_=>none
def pkO (R:XRs) (c:XC):Option (Sg×Nat):=match c with
 | .rw r=>match lk R r with
  | some (_,.tr t xs)=>some (⟨.L t,xs⟩,r)
  | _=>none
 | _=>none
def XSt.tmp (X:XSt) (t:Nat):XV:=X.opd (.t t)
def boxV:XV->Option Nat
 | .a (.c (.pb r _))=>some r
 | .fn _ cs=>match cs with
  | .c (.pb r _)::_=>some r
  | _=>none
 | _=>none
def boxOf (X:XSt) (t:Nat):Option (Nat×List (Nat×XC)):=match boxV (X.tmp t) with
 | some r=>match lk X.roots r with
  | some (_,.bx cs)=>some (r,cs)
  | _=>none
 | none=>none
def treeOf (X:XSt) (t:Nat):Option Nat:=match X.tmp t with
 | .a (.c (.rw r))=>some r
 | _=>none
def sameT (X X':XSt) (t:Nat):Bool:=match lk X.env t,lk X'.env t with
 | some (s,_),some (s',_)=>Nat.beq s s'
 | _,_=>false
def pkB (R:XRs):List Bc->List (Nat×XC)->List (Nat×XC)->Nat->Option (List Sg×List (Nat×Nat)×Nat)
 | [],[],[],n=>some ([],[],n)
 | .K::bs,e::es,e'::es',n=>match Nat.beq e.1 e'.1 with
  | true=>pkB R bs es es' n
  | false=>none
 | .U::bs,_::es,_::es',n=>pkB R bs es es' n
 | .L ty::bs,_::es,e'::es',n=>match pkL e'.2 ty,pkB R bs es es' n with
  | some v,some (vs,s,m)=>some (v::vs,s,m)
  | _,_=>none
 | .O _::bs,_::es,e'::es',n=>match pkO R e'.2,pkB R bs es es' (n+1) with
  | some (v,r),some (vs,s,m)=>some (v::vs,(r,n)::s,m)
  | _,_=>none
 | _,_,_,_=>none
def pk (X X':XSt):List It->Nat->Option (List Sg×List (Nat×Nat)×Nat)
 | [],n=>some ([],[],n)
 | .kt t::l,n=>match sameT X X' t with
  | true=>pk X X' l n
  | false=>none
 | .lt t ty::l,n=>match X'.tmp t with
  | .a (.c c)=>match pkL c ty,pk X X' l n with
   | some v,some (vs,s,m)=>some (v::vs,s,m)
   | _,_=>none
  | _=>none
 | .ot t ty::l,n=>match X'.tmp t with
  | .a (.c c)=>match pkO X'.roots c,pk X X' l (n+1) with
   | some (v,r),some (vs,s,m)=>some (v::vs,(r,n)::s,m)
   | _,_=>none
  | _=>none
 | .bx t cs::l,n=>match sameT X X' t,boxOf X t,boxOf X' t with
  | true,some (r,es),some (r',es')=>match Nat.beq r r',pkB X'.roots cs es es' n with
   | true,some (vs,s,m)=>match pk X X' l m with
    | some (vs2,s2,m2)=>some (vs++vs2,s++s2,m2)
    | none=>none
   | _,_=>none
  | _,_,_=>none
 | .sr t ty::l,n=>match sameT X X' t,treeOf X t with
  | true,some r=>match lk X'.roots r with
   | some (_,.tr t xs)=>match pk X X' l n with
    | some (vs,s,m)=>some (⟨.L t,xs⟩::vs,s,m)
    | none=>none
   | _=>none
  | _,_=>none
def keptT:List It->List Nat
 | []=>[]
 | .kt t::l=>t::keptT l
 | .bx t _::l=>t::keptT l
 | .sr t _::l=>t::keptT l
 | _::l=>keptT l
def chgR (X:XSt):List It->List Nat
 | []=>[]
 | .bx t _::l=>match boxOf X t with
  | some (r,_)=>r::chgR X l
  | none=>chgR X l
 | .sr t _::l=>match treeOf X t with
  | some r=>r::chgR X l
  | none=>chgR X l
 | _::l=>chgR X l
def refC:XC->List Nat
 | .rw r=>[r]
 | .rv r _ _=>[r]
 | .rf r _ _ _ _ _=>[r]
 | .pe r _ _ _ _ _ _=>[r]
 | .pb r _=>[r]
 | _=>[]
def refCs:List XC->List Nat
 | []=>[]
 | c::l=>refC c++refCs l
def refAs:List XA->List Nat
 | []=>[]
 | .c c::l=>refC c++refAs l
 | .ag cs::l=>refCs cs++refAs l
def refV:XV->List Nat
 | .a x=>refAs [x]
 | .tp xs=>refAs xs
 | .sb r _=>[r]
 | .fn _ cs=>refAs cs
 | _=>[]
def keptB:List Bc->List (Nat×XC)->List Nat
 | .K::bs,e::es=>refC e.2++keptB bs es
 | _::bs,_::es=>keptB bs es
 | _,_=>[]
def refsI (X:XSt):List It->List Nat
 | []=>[]
 | .kt t::l=>refV (X.tmp t)++refsI X l
 | .bx t cs::l=>match boxOf X t with
  | some (_,es)=>keptB cs es++refsI X l
  | none=>refsI X l
 | _::l=>refsI X l
def closeR (X:XSt):Nat->List Nat->List Nat
 | 0,_=>[]
 | n+1,l=>l++closeR X n (l.flatMap fun r=>match lk X.roots r with
  | some (_,.bx cs)=>refCs (cs.map (·.2))
  | _=>[])
def addN (l:List Nat):List Nat->List Nat
 | []=>l
 | r::m=>match hasN r l with
  | true=>addN l m
  | false=>addN (r::l) m
def keepR (X:XSt) (its:List It):List Nat:=(addN [] (closeR X 3 (refsI X its))).filter fun r=>!hasN r (chgR X its)
def keptE (X:XSt):List Nat->List (Nat×Nat×XV)
 | []=>[]
 | t::l=>match lk X.env t with
  | some e=>(t,e)::keptE X l
  | none=>keptE X l
def keptRs (X:XSt):List Nat->XRs
 | []=>[]
 | r::l=>match lk X.roots r with
  | some e=>(r,e)::keptRs X l
  | none=>keptRs X l
def sameR (X X':XSt):List Nat->Bool
 | []=>true
 | r::l=>match lk X.roots r,lk X'.roots r with
  | some (s,_),some (s',_)=>Nat.beq s s'&&sameR X X' l
  | none,_=>sameR X X' l
  | _,_=>false
def upB:List Bc->List (Nat×XC)->XSt->List Sg->List ((Nat×XC) ⊕ XC)×XSt×List Sg
 | .K::bs,e::es,A,vs=>let r:=upB bs es A vs;(.inl e::r.1,r.2)
 | .U::bs,_::es,A,vs=>let r:=upB bs es A vs;(.inr .un::r.1,r.2)
 | .L _::bs,_::es,A,v::vs=>let r:=upB bs es A vs;(.inr (leafS v)::r.1,r.2)
 | .O _::bs,_::es,A,v::vs=>match v with
  | ⟨.L t,xs⟩=>let r:=upB bs es (A.newR (.tr t xs)) vs;(.inr (.rw A.next)::r.1,r.2)
  | _=>([],A,[])
 | _,_,A,vs=>([],A,vs)
def stampB (s:Nat):List ((Nat×XC) ⊕ XC)->List (Nat×XC)
 | []=>[]
 | .inl e::l=>e::stampB s l
 | .inr c::l=>(s,c)::stampB s l
def up (X:XSt):List It->XSt->List Sg->XSt
 | [],A,_=>A
 | .kt _::l,A,vs=>up X l A vs
 | .lt t _::l,A,v::vs=>up X l (A.put (some t) (.a (.c (leafS v)))) vs
 | .ot t _::l,A,v::vs=>match v with
  | ⟨.L ty,xs⟩=>up X l ((A.newR (.tr ty xs)).put (some t) (.a (.c (.rw A.next)))) vs
  | _=>A
 | .bx t cs::l,A,vs=>match boxOf X t with
  | some (r,es)=>let q:=upB cs es A vs;up X l (q.2.1.setR r (.bx (stampB q.2.1.stamp q.1))) q.2.2
  | none=>A
 | .sr t _::l,A,v::vs=>match v,treeOf X t with
  | ⟨.L ty,xs⟩,some r=>up X l (A.setR r (.tr ty xs)) vs
  | _,_=>A
 | _,A,_=>A
def base0 (X:XSt) (its:List It):XSt:=⟨keptE X (keptT its),keptRs X (keepR X its),X.next,X.stamp,X.fix⟩
def unpackX (X:XSt) (its:List It) (s:Tp (It.tys its)):XSt:=up X its (base0 X its) (spread _ s)
def disjN (l:List Nat):List Nat->Bool
 | []=>true
 | r::m=>match hasN r l with
  | true=>false
  | false=>disjN l m
def packX {β:Type}(X X':XSt) (its:List It) (k:Tp (It.tys its)->Option β):Option β:=match sameR X X' (keepR X its),pk X X' its X.next with
 | true,some (vs,s,_)=>match nodupN (s.map (·.1))&&(disjN (s.map (·.1)) (keepR X its)&&disjN (s.map (·.1)) (chgR X its)) with
  | true=>coll (It.tys its) vs k
  | false=>none
 | _,_=>none
end Go.Vs
namespace Go.Vs
variable [Glb]
theorem chg_ok2 {X A:XSt}(hX:XOk X) (h:XOk A) (hE:Ext X A){r nx:Nat}{x:XR}(hn:A.next<=nx) (hr:r<nx)
  (hb:∀cs,x=.bx cs->∀(c:Nat) (e:Nat×XC),cs[c]? = some e->(e.1=A.stamp\/∃s0 cs0,lk X.roots r=some (s0,.bx cs0)/\cs0[c]? = some e)/\okC A.roots A.next A.stamp e.2) :
  XOk ⟨A.env,(r,A.stamp,x)::A.roots,nx,A.stamp+1,A.fix⟩/\Ext X ⟨A.env,(r,A.stamp,x)::A.roots,nx,A.stamp+1,A.fix⟩:=by
 have old:∀q s y,lk ((r,A.stamp,x)::A.roots) q=some (s,y)->s<A.stamp->lk A.roots q=some (s,y):=by
  intro q s y hl hs
  rw[lk_cons]at hl
  split at hl
  ·simp only[Option.some.injEq,Prod.mk.injEq]at hl;omega
  ·exact hl
 have le:=Nat.le_succ A.stamp
 refine⟨⟨?_, ?_, ?_,Nat.le_trans h.fixle hn⟩,⟨Nat.le_trans hE.next hn,Nat.le_trans hE.stamp le,hE.fix, ?_,hE.env, ?_⟩⟩
 ·intro q s y hl
  rw[lk_cons]at hl
  split at hl
  ·rename_i e
   simp only[Option.some.injEq,Prod.mk.injEq]at hl
   simp only at e
   obtain⟨rfl,_⟩:=hl
   exact⟨by show q<nx;omega,Nat.lt_succ_self _⟩
  ·obtain⟨a,b⟩:=h.ids q s y hl
   exact⟨by show q<nx;omega,Nat.lt_succ_of_lt b⟩
 ·intro t s w hl
  obtain⟨a,b⟩:=h.env t s w hl
  exact⟨Nat.lt_succ_of_lt a,okV.ext hn le old b⟩
 ·intro q s cs hl e he
  rw[lk_cons]at hl
  split at hl
  ·simp only[Option.some.injEq,Prod.mk.injEq]at hl
   obtain⟨c,hc,he'⟩:=List.getElem_of_mem he
   obtain⟨a,b⟩:=hb cs hl.2 c e (by rw[List.getElem?_eq_getElem hc,he'])
   refine⟨?_,okC.ext hn le old b⟩
   rcases a with a|⟨s0,cs0,a1,a2⟩
   ·rw[a];exact Nat.lt_succ_self _
   ·have h1:=(hX.box _ _ _ a1 e (List.mem_of_getElem? a2)).1
    have h2:=hE.stamp
    show e.1<A.stamp+1
    omega
  ·obtain⟨a,b⟩:=h.box q s cs hl e he
   exact⟨Nat.lt_succ_of_lt a,okC.ext hn le old b⟩
 ·intro q s y hl hs
  exact hE.roots q s y (old q s y hl (Nat.lt_of_lt_of_le hs hE.stamp)) hs
 ·intro q s cs hl c e hc hs
  have h2:=hE.stamp
  rw[lk_cons]at hl
  split at hl
  ·rename_i eq
   simp only at eq
   subst eq
   simp only[Option.some.injEq,Prod.mk.injEq]at hl
   rcases (hb cs hl.2 c e hc).1 with a|a
   ·omega
   ·exact a
  ·exact hE.cells q s cs hl c e hc hs
theorem keptE_lk {X:XSt}:∀{l:List Nat}{t:Nat}{e:Nat×XV},lk (keptE X l) t=some e->lk X.env t=some e
 | [],t,e,h=>by simp [keptE,lk]at h
 | q::l,t,e,h=>by
  simp only[keptE]at h
  split at h
  ·rename_i e' he
   rw[lk_cons]at h
   split at h
   ·rename_i hq
    simp only at hq
    subst hq
    simp only[Option.some.injEq]at h
    rw[<-h];exact he
   ·exact keptE_lk h
  ·exact keptE_lk h
theorem keptRs_lk {X:XSt}:∀{l:List Nat}{t:Nat}{e:Nat×XR},lk (keptRs X l) t=some e->lk X.roots t=some e/\t∈l
 | [],t,e,h=>by simp [keptRs,lk]at h
 | q::l,t,e,h=>by
  simp only[keptRs]at h
  split at h
  ·rename_i e' he
   rw[lk_cons]at h
   split at h
   ·rename_i hq
    simp only at hq
    subst hq
    simp only[Option.some.injEq]at h
    rw[<-h];exact⟨he,List.mem_cons_self⟩
   ·obtain⟨a,b⟩:=keptRs_lk h;exact⟨a,List.mem_cons_of_mem _ b⟩
  ·obtain⟨a,b⟩:=keptRs_lk h;exact⟨a,List.mem_cons_of_mem _ b⟩
theorem base0_ok {X:XSt}(h:XOk X) (its:List It):XOk (base0 X its)/\Ext X (base0 X its):=by
 have hr:∀r s x,lk (keptRs X (keepR X its)) r=some (s,x)->s<X.stamp->lk X.roots r=some (s,x):=fun r s x hl _=>(keptRs_lk hl).1
 refine⟨⟨fun r s x hl=>h.ids r s x (keptRs_lk hl).1, ?_, ?_,h.fixle⟩,⟨Nat.le_refl _,Nat.le_refl _,rfl,hr,fun t s v hl _=>keptE_lk hl, ?_⟩⟩
 ·intro t s v hl
  obtain⟨a,b⟩:=h.env t s v (keptE_lk hl)
  exact⟨a,okV.ext (Nat.le_refl _) (Nat.le_refl _) hr b⟩
 ·intro r s cs hl e he
  obtain⟨a,b⟩:=h.box r s cs (keptRs_lk hl).1 e he
  exact⟨a,okC.ext (Nat.le_refl _) (Nat.le_refl _) hr b⟩
 ·intro r s cs hl c e hc _
  exact⟨s,cs,(keptRs_lk hl).1,hc⟩
theorem leafS_ok {R:XRs}{nx st:Nat}(v:Sg):okC R nx st (leafS v):=by
 obtain⟨t,x⟩:=v
 cases t<;>trivial
theorem boxOf_lk {X:XSt}{t r:Nat}{es:List (Nat×XC)}(h:boxOf X t=some (r,es)):∃s,lk X.roots r=some (s,.bx es):=by
 unfold boxOf at h
 split at h
 ·split at h
  ·rename_i s cs hl
   simp only[Option.some.injEq,Prod.mk.injEq]at h
   obtain⟨rfl,rfl⟩:=h
   exact⟨s,hl⟩
  ·simp at h
 ·simp at h
theorem treeOf_lt {X:XSt}(hX:XOk X){t r:Nat}(h:treeOf X t=some r):r<X.next:=by
 unfold treeOf at h
 have hok:=opd_okV hX (.t t)
 simp only[XSt.tmp]at h
 split at h
 ·rename_i r' hx
  simp only[Option.some.injEq]at h
  subst h
  rw[hx]at hok
  exact hok
 ·simp at h
theorem new_ok {X A:XSt}(hX:XOk X) (hA:XOk A) (hE:Ext X A){t:Ty}{xs:List t.den}:XOk (A.newR (.tr t xs))/\Ext X (A.newR (.tr t xs)) :=
 chg_ok2 hX hA hE (Nat.le_succ _) (Nat.lt_succ_self _) (fun cs h=>by simp at h)
theorem upB_ok {X:XSt}(hX:XOk X):∀(bs:List Bc) (es:List (Nat×XC)) (A:XSt) (vs:List Sg),XOk A->Ext X A->(∀e∈es,okC X.roots X.next X.stamp e.2) ->
  XOk (upB bs es A vs).2.1/\Ext X (upB bs es A vs).2.1/\A.next<=(upB bs es A vs).2.1.next/\(∀(c:Nat) (z:(Nat×XC) ⊕ XC),(upB bs es A vs).1[c]? = some z->match z with
   | .inl e=>es[c]? = some e
   | .inr x=>okC (upB bs es A vs).2.1.roots (upB bs es A vs).2.1.next (upB bs es A vs).2.1.stamp x)
 | [],es,A,vs,hA,hE,_=>by simp only[upB];exact⟨hA,hE,Nat.le_refl _,by simp⟩
 | .K::bs,e::es,A,vs,hA,hE,ho=>by
  obtain⟨a,b,c,d⟩:=upB_ok hX bs es A vs hA hE fun e he=>ho e (List.mem_cons_of_mem _ he)
  refine⟨a,b,c, ?_⟩
  intro j z hz
  cases j with
  | zero=>simp only[upB,List.getElem?_cons_zero,Option.some.injEq]at hz;subst hz;rfl
  | succ j=>exact d j z (by simpa [upB] using hz)
 | .U::bs,e::es,A,vs,hA,hE,ho=>by
  obtain⟨a,b,c,d⟩:=upB_ok hX bs es A vs hA hE fun e he=>ho e (List.mem_cons_of_mem _ he)
  refine⟨a,b,c, ?_⟩
  intro j z hz
  cases j with
  | zero=>simp only[upB,List.getElem?_cons_zero,Option.some.injEq]at hz;subst hz;trivial
  | succ j=>exact d j z (by simpa [upB] using hz)
 | .L ty::bs,e::es,A,v::vs,hA,hE,ho=>by
  obtain⟨a,b,c,d⟩:=upB_ok hX bs es A vs hA hE fun e he=>ho e (List.mem_cons_of_mem _ he)
  refine⟨a,b,c, ?_⟩
  intro j z hz
  cases j with
  | zero=>simp only[upB,List.getElem?_cons_zero,Option.some.injEq]at hz;subst hz;exact leafS_ok v
  | succ j=>exact d j z (by simpa [upB] using hz)
 | .O ty::bs,e::es,A,⟨t,x⟩::vs,hA,hE,ho=>by
  cases t with
  | L t =>
   obtain⟨a1,b1⟩:=new_ok (t:=t) (xs:=x) hX hA hE
   obtain⟨a,b,c,d⟩:=upB_ok hX bs es (A.newR (.tr t x)) vs a1 b1 fun e he=>ho e (List.mem_cons_of_mem _ he)
   refine⟨a,b,Nat.le_trans (Nat.le_succ _) c, ?_⟩
   intro j z hz
   cases j with
   | zero =>
    simp only[upB,List.getElem?_cons_zero,Option.some.injEq]at hz;subst hz
    exact Nat.lt_of_lt_of_le (Nat.lt_succ_self A.next) c
   | succ j=>exact d j z (by simpa [upB] using hz)
  | _=>simp only[upB];exact⟨hA,hE,Nat.le_refl _,by simp⟩
 | .K::bs,[],A,vs,hA,hE,_=>by simp only[upB];exact⟨hA,hE,Nat.le_refl _,by simp⟩
 | .U::bs,[],A,vs,hA,hE,_=>by simp only[upB];exact⟨hA,hE,Nat.le_refl _,by simp⟩
 | .L _::bs,[],A,vs,hA,hE,_=>by simp only[upB];exact⟨hA,hE,Nat.le_refl _,by simp⟩
 | .O _::bs,[],A,vs,hA,hE,_=>by simp only[upB];exact⟨hA,hE,Nat.le_refl _,by simp⟩
 | .L _::bs,_::_,A,[],hA,hE,_=>by simp only[upB];exact⟨hA,hE,Nat.le_refl _,by simp⟩
 | .O _::bs,_::_,A,[],hA,hE,_=>by simp only[upB];exact⟨hA,hE,Nat.le_refl _,by simp⟩
theorem stampB_get {s:Nat}:∀{l:List ((Nat×XC) ⊕ XC)}{c:Nat}{e:Nat×XC},(stampB s l)[c]? = some e->∃z,l[c]? = some z/\(z=.inl e\/∃x,z=.inr x/\e=(s,x))
 | [],c,e,h=>by simp [stampB]at h
 | z::l,0,e,h=>by
  cases z with
  | inl e'=>simp only[stampB,List.getElem?_cons_zero,Option.some.injEq]at h;subst h;exact⟨_,rfl,.inl rfl⟩
  | inr x=>simp only[stampB,List.getElem?_cons_zero,Option.some.injEq]at h;subst h;exact⟨_,rfl,.inr ⟨x,rfl,rfl⟩⟩
 | z::l,c+1,e,h=>by
  have:(stampB s l)[c]? = some e:=by cases z<;>simpa [stampB] using h
  simpa using stampB_get this
theorem up_ok {X:XSt}(hX:XOk X):∀(its:List It) (A:XSt) (vs:List Sg),XOk A->Ext X A->XOk (up X its A vs)/\Ext X (up X its A vs)
 | [],A,vs,hA,hE=>⟨hA,hE⟩
 | .kt t::l,A,vs,hA,hE=>by simp only[up];exact up_ok hX l A vs hA hE
 | .lt t ty::l,A,v::vs,hA,hE=>by
  obtain⟨a,b⟩:=put_ok hA (d:=some t) (v:=.a (.c (leafS v))) (leafS_ok v)
  simp only[up];exact up_ok hX l _ vs a (hE.trans b)
 | .ot t ty::l,A,⟨t',x⟩::vs,hA,hE=>by
  cases t' with
  | L t' =>
   obtain⟨a1,b1⟩:=new_ok (t:=t') (xs:=x) hX hA hE
   obtain⟨a,b⟩:=put_ok a1 (d:=some t) (v:=.a (.c (.rw A.next))) (Nat.lt_succ_self A.next)
   simp only[up];exact up_ok hX l _ vs a (b1.trans b)
  | _=>exact⟨hA,hE⟩
 | .bx t cs::l,A,vs,hA,hE=>by
  simp only[up]
  split
  ·rename_i r es hb
   obtain⟨s,hl⟩:=boxOf_lk hb
   obtain⟨a,b,c,d⟩:=upB_ok hX cs es A vs hA hE (fun e he=>(hX.box r s es hl e he).2)
   have hr:=(hX.ids r s _ hl).1
   obtain⟨a',b'⟩:=chg_ok2 hX a b (x:=.bx (stampB (upB cs es A vs).2.1.stamp (upB cs es A vs).1)) (Nat.le_refl _) (Nat.lt_of_lt_of_le hr b.next) (by
    intro cs' e j en hj
    simp only[XR.bx.injEq]at e
    subst e
    obtain⟨z,hz,h⟩:=stampB_get hj
    have hd:=d j z hz
    rcases h with rfl|⟨x,rfl,rfl⟩
    ·exact⟨.inr ⟨s,es,hl,hd⟩,okC.ext b.next b.stamp b.roots (hX.box r s es hl en (List.mem_of_getElem? hd)).2⟩
    ·exact⟨.inl rfl,hd⟩)
   exact up_ok hX l _ _ a' b'
  ·exact⟨hA,hE⟩
 | .sr t ty::l,A,⟨t',x⟩::vs,hA,hE=>by
  simp only[up]
  split
  ·rename_i t2 x2 r hv ht
   obtain⟨a,b⟩:=chg_ok2 hX hA hE (x:=.tr t2 x2) (Nat.le_refl _) (Nat.lt_of_lt_of_le (treeOf_lt hX ht) hE.next) (fun cs h=>by simp at h)
   exact up_ok hX l _ vs a b
  ·exact⟨hA,hE⟩
 | .lt _ _::_,A,[],hA,hE=>⟨hA,hE⟩
 | .ot _ _::_,A,[],hA,hE=>⟨hA,hE⟩
 | .sr _ _::_,A,[],hA,hE=>by simp only[up];exact⟨hA,hE⟩
theorem unpack_ok {X:XSt}(hX:XOk X) (its:List It) (s:Tp (It.tys its)):XOk (unpackX X its s)/\Ext X (unpackX X its s):=by
 obtain⟨a,b⟩:=base0_ok hX its
 exact up_ok hX its _ _ a b
end Go.Vs
