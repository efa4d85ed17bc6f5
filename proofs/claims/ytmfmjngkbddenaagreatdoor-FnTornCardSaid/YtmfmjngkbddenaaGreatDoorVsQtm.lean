import Derived.Test.YtmfmjngkbddenaaGreatDoorVsQtl
set_option linter.all false
namespace Go.Vs
noncomputable section
structure GoodD (m:Nat) (x:Dv):Prop where
 ok:dOk x=true
 up:x.2.2.2=false
 fuse:x.2.2.1=-1
 small:x.2.1.length<=m
theorem Yr3 {n:Int}(h:1<=n/\n<=64):GoodD 0 (nwD n):=by
 unfold nwD;rw[if_pos h];refine⟨Qg ?_ ?_ ?_ ?_ ?_,rfl,rfl,Kc _⟩
 ·simp;omega
 ·simp
 ·simp
 ·intro b hb;rw[Kfg hb];simp
 intro w hw;cases hw
def UpD (x:Dv):Prop:=x.2.2.2=false/\x.2.2.1=-1
theorem Ydu {x:Dv}{n:Int}{b:List UInt8}(h:UpD x):UpD (x.1,wrC x.1 x.2.1 x.2.2.1 x.2.2.2 n b):=by
 obtain⟨secs,cache,fuse,down⟩:=x;obtain⟨h1,h2⟩:=h;simp only at h1 h2;subst h1 h2;unfold wrC UpD;split
 ·exact⟨rfl,rfl⟩
 split
 ·rename_i h;exact absurd h (show ¬(-1:Int)=0 by decide)
 exact⟨rfl,show opF (-1)=-1 by decide⟩
theorem Zvm {x:Dv}(h:UpD x):UpD (flC x.1 x.2.1 x.2.2.1 x.2.2.2):=by
 obtain⟨secs,cache,fuse,down⟩:=x;obtain⟨h1,h2⟩:=h;simp only at h1 h2;subst h1 h2;simp only;rw[Oj (by omega)];exact⟨rfl,show opF (-1)=-1 by decide⟩
theorem Yjz (s:List (List UInt8)) (c:List Wr) (f:Int) (d:Bool):(flC s c f d).1.length=s.length:=by
 unfold flC;split
 ·rfl
 split
 ·rfl
 simp
theorem Yjy (s:List (List UInt8)) (c:List Wr) (f:Int) (d:Bool):(flC s c f d).2.2.2=true\/(flC s c f d).2.1=[]:=by
 unfold flC;split
 ·rename_i h;exact .inl h
 split
 ·exact .inl rfl
 exact .inr rfl
theorem Ztt {g:Int}{rs:List Rec}{D:Dv}(h:UpD D):∀i,UpD (dAt g rs D i)
 | 0=>h
 | i+1=>Ydu (Ztt h i)
theorem Zxp {g:Int}{rs:List Rec}{D:Dv}(h:UpD D):UpD (Cg g rs D):=Zvm (x:=(_,_)) (Ydu (Zvm (Ztt h _)))
theorem Yqy {g:Int}{rs:List Rec}{D:Dv}:(Cg g rs D).1.length=D.1.length:=by
 unfold Cg;simp only[Yjz,Zfb]
theorem Yqx {g:Int}{rs:List Rec}{D:Dv}:(Cg g rs D).2.2.2=true\/(Cg g rs D).2.1=[]:=Yjy _ _ _ _
structure RightS (s:Bw):Prop where
 dev:dOk s.1=true
 len:s.1.1.length=62
 cache:s.1.2.2.2=true\/s.1.2.1=[]
 tab:B7 s.2.1=true
 gen:1<=s.2.2.1/\s.2.2.1<=60000
 place:0<=s.2.2.2/\s.2.2.2<=30
theorem T2 {s:Bw}(h:RightS s):Ii s=true:=by
 obtain⟨h1,h2,h3,h4,h5,h6⟩:=h;unfold Ii;rw[show Ce s.1.1 s.1.2.1 s.1.2.2.1=true from h1,decide_eq_true h2,h4,decide_eq_true h5,decide_eq_true h6];rcases h3 with h|h<;>simp [h]
theorem Zhp {s:Bw}(h:RightS s):smS 1048576 s:=by
 have h1:=Vo h.dev;have h2:=H6 (show Ce s.1.1 s.1.2.1 s.1.2.2.1=true from h.dev);exact⟨⟨h1.1,h1.2.1,by have:=h2.2.1;omega,h1.2.2.2⟩,(Xg h.tab).mono (by decide)⟩
theorem W2 {t:Tab}(h:B7 t=true):(A8 t).length<=18:=by
 obtain⟨_,_,a,_,_,b⟩:=Zbw h;rw[Tz];omega
theorem Tj:dOk (nwD 62)=true/\UpD (nwD 62)/\(nwD 62).1.length=62:=⟨(Yr3 (by omega)).ok,⟨rfl,rfl⟩,rfl⟩
def Vz:Bw:=(Cg 1 (A8 Ij) (nwD 62),(Ij,(1,1)))
theorem Yca:smT 1048576 Ij:=(Xg Uf).mono (by decide)
theorem Yj6:RightS Vz/\UpD Vz.1:=⟨⟨Th Tj.1,Yqy.trans Tj.2.2,Yqx,Uf,by decide,by decide⟩,Zxp Tj.2.1⟩
theorem Yt1:Zc5 ()=some Vz:=by
 have hR:=Zpi Yca;have hu:=(Yj6).2.1;have e:=Ya5 (D:=nwD 62) (T:=Ij) (gp:=(0,0)) (g:=1) Tj.1 (Yay Yca) hR.1 hR.2;rw[Zc5,Ytw,Aa,show P2 ((nwD 62,(([],(0,[])),(0,0))),1)=_ from e,Aa,if_neg (by rw[show (Cg 1 (A8 Ij) (nwD 62)).2.2.2=false from hu];decide)];rfl
end
end Go.Vs
