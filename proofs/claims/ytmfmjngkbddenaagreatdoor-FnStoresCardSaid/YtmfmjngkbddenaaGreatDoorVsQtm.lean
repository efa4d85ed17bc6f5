import Derived.Test.YtmfmjngkbddenaaGreatDoorVsW5
import Derived.Test.YtmfmjngkbddenaaGreatDoorVsQtl
set_option linter.all false
namespace Go.Vs
noncomputable section
structure GoodD (m:Nat) (x:Dv):Prop where
 ok:dOk x=true
 up:x.2.2.2=false
 fuse:x.2.2.1=-1
 small:x.2.1.length<=m
theorem Yrj {n:Int}(h:1<=n/\n<=64):GoodD 0 (nwD n):=by
 unfold nwD;rw[if_pos h];refine⟨Zc ?_ ?_ ?_ ?_ ?_,rfl,rfl,Kc _⟩
 ·simp;omega
 ·simp
 ·simp
 ·intro b hb;rw[Kfg hb];simp
 ·intro w hw;cases hw
def UpD (x:Dv):Prop:=x.2.2.2=false/\x.2.2.1=-1
theorem Ydf {x:Dv}{n:Int}{b:List UInt8}(h:UpD x):UpD (x.1,wrC x.1 x.2.1 x.2.2.1 x.2.2.2 n b):=by
 obtain⟨secs,cache,fuse,down⟩:=x;obtain⟨h1,h2⟩:=h;simp only at h1 h2;subst h1 h2;unfold wrC UpD;split
 ·exact⟨rfl,rfl⟩
 ·split
  ·rename_i h;exact absurd h (show ¬(-1:Int)=0 by decide)
  ·exact⟨rfl,show opF (-1)=-1 by decide⟩
theorem Zu5 {x:Dv}(h:UpD x):UpD (flC x.1 x.2.1 x.2.2.1 x.2.2.2):=by
 obtain⟨secs,cache,fuse,down⟩:=x;obtain⟨h1,h2⟩:=h;simp only at h1 h2;subst h1 h2;simp only;rw[Vn (by omega)];exact⟨rfl,show opF (-1)=-1 by decide⟩
theorem Yji (s:List (List UInt8)) (c:List Wr) (f:Int) (d:Bool):(flC s c f d).1.length=s.length:=by
 unfold flC;split
 ·rfl
 ·split
  ·rfl
  ·simp
theorem Yjh (s:List (List UInt8)) (c:List Wr) (f:Int) (d:Bool):(flC s c f d).2.2.2=true\/(flC s c f d).2.1=[]:=by
 unfold flC;split
 ·rename_i h;exact .inl h
 ·split
  ·exact .inl rfl
  ·exact .inr rfl
theorem Ztc {g:Int}{rs:List Rec}{D:Dv}(h:UpD D):∀i,UpD (dAt g rs D i)
 | 0=>h
 | i+1=>Ydf (Ztc h i)
theorem Yqj {g:Int}{rs:List Rec}{D:Dv}(h:UpD D):UpD (D3 g rs D):=Zu5 (x:=(_,_)) (Ydf (Zu5 (Ztc h _)))
theorem Yqi {g:Int}{rs:List Rec}{D:Dv}:(D3 g rs D).1.length=D.1.length:=by
 unfold D3;simp only[Yji,Ze1]
theorem Yqg {g:Int}{rs:List Rec}{D:Dv}:(D3 g rs D).2.2.2=true\/(D3 g rs D).2.1=[]:=Yjh _ _ _ _
structure RightS (s:Bv):Prop where
 dev:dOk s.1=true
 len:s.1.1.length=62
 cache:s.1.2.2.2=true\/s.1.2.1=[]
 tab:Ca s.2.1=true
 gen:1<=s.2.2.1/\s.2.2.1<=60000
 place:0<=s.2.2.2/\s.2.2.2<=30
theorem Tn {s:Bv}(h:RightS s):Ie s=true:=by
 obtain⟨h1,h2,h3,h4,h5,h6⟩:=h;unfold Ie;rw[show Cj s.1.1 s.1.2.1 s.1.2.2.1=true from h1,decide_eq_true h2,h4,decide_eq_true h5,decide_eq_true h6];rcases h3 with h|h<;>simp [h]
theorem Za6 {s:Bv}(h:RightS s):smS 1048576 s:=by
 have h1:=Zkz h.dev;have h2:=Ms (show Cj s.1.1 s.1.2.1 s.1.2.2.1=true from h.dev);exact⟨⟨h1.1,h1.2.1,by have:=h2.2.1;omega,h1.2.2.2⟩,(Zbn h.tab).mono (by decide)⟩
theorem Zze {t:Tab}(h:Ca t=true):(C2 t).length<=18:=by
 obtain⟨_,_,a,_,_,b⟩:=Zbm h;rw[Tl];omega
theorem S8:dOk (nwD 62)=true/\UpD (nwD 62)/\(nwD 62).1.length=62:=⟨(Yrj (by omega)).ok,⟨rfl,rfl⟩,rfl⟩
def Vo:Bv:=(D3 1 (C2 Ig) (nwD 62),(Ig,(1,1)))
theorem Ybx:smT 1048576 Ig:=(Zbn T4).mono (by decide)
theorem Yjp:RightS Vo/\UpD Vo.1:=⟨⟨Zf9 S8.1,Yqi.trans S8.2.2,Yqg,T4,by decide,by decide⟩,Yqj S8.2.1⟩
theorem Ytk:Zcw ()=some Vo:=by
 have hR:=Zo0 Ybx;have hu:=(Yjp).2.1;have e:=Yar (D:=nwD 62) (T:=Ig) (gp:=(0,0)) (g:=1) S8.1 (Yak Ybx) hR.1 hR.2;rw[Zcw,Ytf,Aa,show P0 ((nwD 62,(([],(0,[])),(0,0))),1)=_ from e,Aa,if_neg (by rw[show (D3 1 (C2 Ig) (nwD 62)).2.2.2=false from hu];decide)];rfl
end
end Go.Vs
