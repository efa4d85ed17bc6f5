import Derived.Test.YtmfmjngkbddenaaGreatDoorVsW5
import Derived.Test.YtmfmjngkbddenaaGreatDoorVsQoa
set_option linter.all false
namespace Go.Vs
noncomputable section
def suf (l:List UInt8) (a:Int):List UInt8:=if a<0 then [] else l.drop a.toNat
theorem Zxg (l:List UInt8) (k:Nat):suf l (k:Int)=l.drop k:=by
 unfold suf;rw[if_neg (by omega)];rfl
def Rd (l:List UInt8) (a:Int) (t:List UInt8):Prop:=0<=a/\a<=l.length/\suf l a=t
theorem Rd.nat {l t:List UInt8}{a:Int}(h:Rd l a t):∃k:Nat,a=k/\k<=l.length/\t=l.drop k:=by
 obtain⟨h0,h1,h2⟩:=h;obtain⟨k,rfl⟩:=Kid h0;exact⟨k,rfl,by omega,by rw[<-h2,Zxg]⟩
theorem Rd.mk {l:List UInt8}{k:Nat}(h:k<=l.length):Rd l k (l.drop k):=⟨by omega,by omega,Zxg l k⟩
theorem Rd.len {l t:List UInt8}{a:Int}(h:Rd l a t):a+t.length=l.length:=by
 obtain⟨k,rfl,h1,rfl⟩:=h.nat;rw[Kra];omega
theorem Rd.app {l u t:List UInt8}{a:Int}(h:Rd l a (u++t)):Rd l (a+u.length) t:=by
 have hl:=h.len;obtain⟨k,rfl,h1,h2⟩:=h.nat;have:t=l.drop (k+u.length):=by
  rw[<-Ked,<-h2,Kaf]
 rw[this,show (k:Int)+(u.length:Int)=((k+u.length:Nat):Int) by omega];refine Rd.mk ?_;rw[Ky]at hl;omega
def RdR {α:Type}(l:List UInt8) (z:α) (o:Option (α×Int×Bool)) (p:Option (α×List UInt8)) (a:Int):Prop:=match p with
 | none=>o=some (z,(a,true))
 | some (v,q)=>∃b,o=some (v,(b,false))/\Rd l b q
def RdW {α:Type}(l:List UInt8) (o:Option (α×Int×Bool)) (p:Option (α×List UInt8)):Prop:=match p with
 | none=>∃v b,o=some (v,(b,true))
 | some (v,q)=>∃b,o=some (v,(b,false))/\Rd l b q
end
end Go.Vs
