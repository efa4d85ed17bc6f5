import Derived.Test.YtmfmjngkbddenaaGreatDoorVsW5
import Derived.Test.YtmfmjngkbddenaaGreatDoorVsQo7
set_option linter.all false
namespace Go.Vs
noncomputable section
def HSc (m:Int) (e:List UInt8) (m':Int):Prop:=0<=m'/\L1 (e,m)=some m'
theorem Yiq {x:List (List UInt8)}{m:Int}(h0:0<=m) (hm:m<=1125899906842624) (hl:x.length<=1048577) (hx:∀b∈x,b.length<=1048576):∃m' x',Zm (x,m)=some (m',x')/\Zmb (x',m)=some m'/\x'.length=x.length/\m<=m'/\m'<=m+1125899906842624:=by
 obtain⟨l',m',h1,h2,h3,h4,h5⟩:=Xe (H:=HSc) (K:=1048576) (x:=x) (m0:=m) (step:=Vn) (by omega) (by omega) (by
  intro l k i hi hll hxi hk1 hk2;have hbl:=hx x[i] (Ktb hi);obtain⟨m1,x1,b1,b2,b3,b4,b5⟩:=Zcv (x:=x[i]) (m:=k) (by omega) (by omega) hbl;have ho:=Eq.refl (Vn (l,(k,(i:Int))))
  conv at ho=>rhs;simp (disch:=first|omega|(simp only[Zcp,Aj];omega)) only[Vn,A6,Ag,Gd,Mf,hxi,Ab,D9,C9,Hw,A4,b1,b3]
  exact⟨_,_,ho,⟨by omega,b2⟩,by omega,by omega⟩) (by
  intro l k hll;simp only[Vn];rw[A3 (by simp only[Aj];omega),Ae])
 refine⟨m',l', ?_, ?_,h3,h4,by omega⟩
 ·unfold Zm;simp only[h1,A2,h3,Hw,A4]
 ·unfold Zmb;simp only;rw[Ws (H:=HSc) (m1:=m') (by omega) h2 (by
   rintro k k' i hi ⟨q1,q2⟩;simp only[Zff];rw[A6 (by simp only[Aj];omega),Ag,B9 hi,Ab,q2,Ab,A3 q1,Ae,Dg (by omega)];rfl) (by
   intro k;simp only[Zff];rw[A3 (by simp only[Aj];omega),Ae])]
  rfl
def HWr (m:Int) (e:Wr) (m':Int):Prop:=∀(x:List Wr×Int) (i:Nat),x.1.length<=4194304->i<x.1.length->x.1[i]? = some e->Zal x (m,(i:Int))=some (.inl (m',(i:Int)+1))
theorem Yit {x:List Wr}{m:Int}(h0:0<=m) (hm:m<=2251799813685248) (hl:x.length<=1048577) (hx:∀w∈x,w.2.length<=1048576):∃m' x',Zr (x,m)=some (m',x')/\Zmc (x',m)=some m'/\x'.length=x.length/\m<=m'/\m'<=m+2251799813685248:=by
 obtain⟨l',m',h1,h2,h3,h4,h5⟩:=Xe (H:=HWr) (K:=2097152) (x:=x) (m0:=m) (step:=Vq) (by omega) (by omega) (by
  intro l k i hi hll hxi hk1 hk2;have hbl:=hx x[i] (Ktb hi);have hil:i<l.length:=by omega
  obtain⟨m1,x1,b1,b2,b3,b4,b5⟩:=Zcv (x:=x[i].2) (m:=k+1) (by omega) (by omega) hbl;have ho:=Eq.refl (Vq (l,(k,(i:Int))))
  conv at ho=>rhs;simp (disch:=first|omega|(simp only[Zcp,Aj];omega)) only[Vq,A6,Ag,Gd,Mf,hxi,Ab,D9,C9,Zip,Ziq,Hw,A4,b1,b3]
  refine⟨_,_,ho, ?_,by omega,by omega⟩;intro y j hyl hj hy;simp (disch:=first|omega|(simp only[Aj];omega)) only[Zal,A6,Ag,Gd,hy,Ab,C9,E6,Ae,b2,A3]) (by
  intro l k hll;simp only[Vq];rw[A3 (by simp only[Aj];omega),Ae])
 refine⟨m',l', ?_, ?_,h3,h4,by omega⟩
 ·unfold Zr;simp only[h1,A2,h3,Hw,A4]
 ·unfold Zmc;simp only;rw[Ws (H:=HWr) (m1:=m') (by omega) h2 (fun k k' i hi h=>h _ i (by simp only;omega) hi (Kr hi)) (by
   intro k;simp only[Zal];rw[A3 (by simp only[Aj];omega),Ae])]
  rfl
def Ua (g i:Int):Int:=Ai .i64 (Ai .i64 2 (K5 .i64 30 (Ob g 2))) i
def stp (g:Int) (rs:List Rec) (D:Dv) (i:Nat):Dv:=(D.1,wrC D.1 D.2.1 D.2.2.1 D.2.2.2 (Ua g i) (Zjv g i (rs.getD i (Yml 0))))
end
end Go.Vs
