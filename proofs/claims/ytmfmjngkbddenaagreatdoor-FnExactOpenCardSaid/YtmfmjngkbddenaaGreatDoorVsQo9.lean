import Derived.Test.YtmfmjngkbddenaaGreatDoorVsW5
import Derived.Test.YtmfmjngkbddenaaGreatDoorVsQo8
set_option linter.all false
namespace Go.Vs
noncomputable section
abbrev WrT:=Int×List UInt8
abbrev Dev:=List (List UInt8)×List WrT×Int×Bool
abbrev E8:=Dev×Tab×Int×Int
def smD (B:Nat) (d:Dev):Prop:=d.1.length<=B/\(∀s∈d.1,s.length<=B)/\d.2.1.length<=B/\∀w∈d.2.1,w.2.length<=B
def smS (B:Nat) (s:E8):Prop:=smD B s.1/\smT B s.2.1
theorem smD.mono {A B:Nat}{d:Dev}(h:smD A d) (hab:A<=B):smD B d:=⟨Kqa h.1 hab,fun s hs=>Kqa (h.2.1 s hs) hab,Kqa h.2.2.1 hab,fun w hw=>Kqa (h.2.2.2 w hw) hab⟩
theorem Yud {d:Dev}{k:Int}(h0:0<=k) (hk:k<=1048576) (h:smD 9223372036854775807 d):SzR (Zce (d,k)) k (smD 1048576 d):=by
 unfold Zce;have e1:Zij (d.1,k)=Zhm Xm (d.1,k):=rfl;have e2:∀z,Zik (d.2.1,z)=Zhm Zcf (d.2.1,z):=fun z=>rfl;simp only[e1,e2];refine (SzR.seq h0 (Yat (B:=1048576) h0 hk (by omega) h.1 (P:=fun s=>s.length<=1048576) fun e he k h0 hk=>(Yas h0 (by omega) (h.2.1 e he)).mono (Koc _) fun h=>by omega) (Q:=d.2.1.length<=1048576/\∀w∈d.2.1,w.2.length<=1048576) fun z hz hz2=>?_).mono (Koc _) fun h=>⟨by have:=h.1.1;omega,h.1.2,h.2.1,h.2.2⟩;refine SzR.one hz ((Yat (B:=1048576) hz (by omega) (by omega) h.2.2.1 (P:=fun w=>w.2.length<=1048576) fun e he k h0 hk=>?_).mono (Koc _) fun h=>⟨by have:=h.1;omega,h.2⟩);unfold Zcf;exact SzR.one h0 ((Yas h0 (by omega) (h.2.2.2 e he)).mono (Koc _) fun h=>by omega)
theorem Yuj {d:Dev}(h:smD 1048576 d):Rg d=some d:=by
 have e1:Zcg d.1=some d.1:=by
  have:Zcg d.1=Za2 T6 [] 24 d.1:=rfl;rw[this];exact Zpx (by have:=h.1;omega) (by have:=h.1;omega) fun r hr=>Ya6 (by have:=h.2.1 r hr;omega)
 have e2:Zci d.2.1=some d.2.1:=by
  have:Zci d.2.1=Za2 Zch (0,[]) 32 d.2.1:=rfl;rw[this];exact Zpx (by have:=h.2.2.1;omega) (by have:=h.2.2.1;omega) fun r hr=>by
   unfold Zch;rw[Ya6 (by have:=h.2.2.2 r hr;omega)];rfl
 unfold Rg;rw[e1,Aa,e2];rfl
theorem Zt1 {d:Dev}(h:smD 1048576 d):T4 (d,d)=some true:=by
 have e1:Zbw (d.1,d.1)=some true:=by
  have:Zbw (d.1,d.1)=U3 Re (d.1,d.1):=rfl;rw[this];exact Zey (by have:=h.1;omega) fun r hr=>Zle (by have:=h.2.1 r hr;omega)
 have e2:Zb1 (d.2.1,d.2.1)=some true:=by
  have:Zb1 (d.2.1,d.2.1)=U3 Zb0 (d.2.1,d.2.1):=rfl;rw[this];exact Zey (by have:=h.2.2.1;omega) fun r hr=>by
   unfold Zb0;simp only[Eo,Ac,Zle (show r.2.length<9223372036854775807 by have:=h.2.2.2 r hr;omega),Aa,Az]
 unfold T4;simp only[e1,e2,Aa,Az,Ac,Eo,Zdu]
theorem Yil {s:E8}(h:smS 1048576 s):T5 (s,s)=some true:=by
 have e1:T4 ((s.1.1,(s.1.2.1,(s.1.2.2.1,s.1.2.2.2))),(s.1.1,(s.1.2.1,(s.1.2.2.1,s.1.2.2.2))))=some true:=Zt1 h.1;have e2:Xj ((s.2.1.1,(s.2.1.2.1,s.2.1.2.2)),(s.2.1.1,(s.2.1.2.1,s.2.1.2.2)))=some true:=Yim h.2;unfold T5;simp only[e1,e2,Aa,Az,Ac,Eo]
theorem Tg {d:Dev}(h:smD 1048576 d):SmD d:=⟨h.1,h.2.1,Kqa h.2.2.1 (by decide),h.2.2.2⟩
def J4 (s:E8):Bool:=C2 s.1.1 s.1.2.1 s.1.2.2.1&&(decide (s.1.1.length=62)&&((s.1.2.2.2||decide (s.1.2.1.length=0))&&(Dc s.2.1&&(decide (1<=s.2.2.1/\s.2.2.1<=60000)&&decide (0<=s.2.2.2/\s.2.2.2<=30)))))
theorem Zf0 {n k:Nat}:decide ((n:Int)=(k:Int))=decide (n=k):=by rw[Ktc];simp;omega
theorem Zzp {s:E8}(h:smS 1048576 s):Uc s=some (J4 s):=by
 have e1:T7 (s.1.1,(s.1.2.1,(s.1.2.2.1,s.1.2.2.2)))=some (C2 s.1.1 s.1.2.1 s.1.2.2.1):=Zzk (Tg h.1);have e2:Ng (s.2.1.1,(s.2.1.2.1,s.2.1.2.2))=some (Dc s.2.1):=Zoz h.2;unfold Uc J4;simp only[e1,e2,D0,Ai,Aa,Px,I4];rw[show decide ((s.1.1.length:Int)=62)=decide (s.1.1.length=62) from Zf0,show decide ((s.1.2.1.length:Int)=0)=decide (s.1.2.1.length=0) from Zf0];generalize C2 s.1.1 s.1.2.1 s.1.2.2.1=a;generalize decide (s.1.1.length=62)=b;generalize decide (s.1.2.1.length=0)=c;generalize Dc s.2.1=d;generalize decide (1<=s.2.2.1/\s.2.2.1<=60000)=e;generalize decide (0<=s.2.2.2/\s.2.2.2<=30)=f;generalize s.1.2.2.2=g;cases a<;>cases b<;>cases c<;>cases d<;>cases g<;>rfl
theorem Zvj {s:E8}(h:smS 1048576 s):Tz s=some (J4 s):=by
 have e1:K2 (s.1.1,(s.1.2.1,(s.1.2.2.1,s.1.2.2.2)))=some (C2 s.1.1 s.1.2.1 s.1.2.2.1):=Zfk (Tg h.1);have e2:M8 (s.2.1.1,(s.2.1.2.1,s.2.1.2.2))=some (Dc s.2.1):=Zma h.2;unfold Tz J4;simp only[e1,e2,G9,Ai,Aa,Px,I4];rw[show decide ((s.1.1.length:Int)=62)=decide (s.1.1.length=62) from Zf0,show decide ((s.1.2.1.length:Int)=0)=decide (s.1.2.1.length=0) from Zf0];generalize C2 s.1.1 s.1.2.1 s.1.2.2.1=a;generalize decide (s.1.1.length=62)=b;generalize decide (s.1.2.1.length=0)=c;generalize Dc s.2.1=d;generalize decide (1<=s.2.2.1/\s.2.2.1<=60000)=e;generalize decide (0<=s.2.2.2/\s.2.2.2<=30)=f;generalize s.1.2.2.2=g;cases a<;>cases b<;>cases c<;>cases d<;>cases g<;>rfl
def Zoi (r:Row):Rec:=(1,r,[],0,0,0,0)
def Znb (m:Cc):Rec:=(4,([],(0,[]),(0,[]),0,false),[],0,m.1,m.2.1,m.2.2)
def Ip (t:Tab):List Rec:=Zpy t.2.1::(t.1.map Zoi++t.2.2.map Znb)
theorem Zx4 (t:Tab):(Ip t).length=1+t.1.length+t.2.2.length:=by simp [Ip];omega
theorem Zx5 {t:Tab}(h:smT 1048576 t):(Ip t).length<=4194304/\∀r∈Ip t,smC 1048576 r:=by
 refine⟨by rw[Zx4];have:=h.1;have:=h.2.2;omega, ?_⟩;intro r hr;simp only[Ip,Kh,Kia,Kca]at hr;rcases hr with rfl|⟨q,hq,rfl⟩|⟨q,hq,rfl⟩
 ·exact⟨⟨Koa _,Koa _,Koa _⟩,Koa _⟩
 ·exact⟨h.2.1 q hq,Koa _⟩
 ·exact⟨⟨Koa _,Koa _,Koa _⟩,Koa _⟩
theorem Ysb {t:Tab}(h:smT 1048576 t):Xq t=some (Ip t):=by
 have h1:=h.1;have h2:=h.2.2;unfold Xq;rw[Nq (x:=t.1) (f:=Zoi) (by
  intro l i hi hl;simp only[Ke,Ki]at hl;simp (disch:=first|omega|(simp only[Ai];omega)) only[Zi5,A5,Ad,Bp,Aa,Zop (h.2.1 t.1[i] (Kcb hi)),Bq,Av,C3];rfl) (by
  intro l;simp (disch:=first|omega|(simp only[Ai];omega)) only[Zi5,A3,Ac])]
 simp only[Ax];rw[Nq (x:=t.2.2) (f:=Znb) (by
  intro l i hi hl;simp only[Kz,Kt,Ke,Ki]at hl;simp (disch:=first|omega|(simp only[Ai];omega)) only[Zi6,A5,Ad,Bp,Aa,Bq,Av,C3];rfl) (by
  intro l;simp (disch:=first|omega|(simp only[Ai];omega)) only[Zi6,A3,Ac])]
 simp only[Ax];rfl
theorem Yoa {t:Tab}(h:smT 1048576 t):Zbr t=some (Ip t):=by
 have h1:=h.1;have h2:=h.2.2;unfold Zbr;rw[Nq (x:=t.1) (f:=Zoi) (by
  intro l i hi hl;simp only[Ke,Ki]at hl;simp (disch:=first|omega|(simp only[Ai];omega)) only[Ziv,A5,Ad,Bp,Aa,Zl5 (h.2.1 t.1[i] (Kcb hi)),Bq,Av,C3];rfl) (by
  intro l;simp (disch:=first|omega|(simp only[Ai];omega)) only[Ziv,A3,Ac])]
 simp only[Ax];rw[Nq (x:=t.2.2) (f:=Znb) (by
  intro l i hi hl;simp only[Kz,Kt,Ke,Ki]at hl;simp (disch:=first|omega|(simp only[Ai];omega)) only[Ziw,A5,Ad,Bp,Aa,Bq,Av,C3];rfl) (by
  intro l;simp (disch:=first|omega|(simp only[Ai];omega)) only[Ziw,A3,Ac])]
 simp only[Ax];rfl
end
end Go.Vs
