import Derived.Test.YtmfmjngkbddenaaGreatDoorVsQtd
set_option linter.all false
namespace Go.Vs
noncomputable section
abbrev Mk:=Int×Int×Int
theorem Wt {f:Int}(h:-1<=f/\f<=1000):-1<=opF f/\opF f<=1000:=by unfold opF;split<;>omega
theorem Uo {x:Dv}{n:Int}{b:List UInt8}(h:dOk x=true):dOk (x.1,wrC x.1 x.2.1 x.2.2.1 x.2.2.2 n b)=true:=by
 obtain⟨d1,d2,d3,d4,d5⟩:=H6 (show Ce x.1 x.2.1 x.2.2.1=true from h);unfold wrC;split
 ·exact h
 rename_i hc;split
 ·exact Qg d1 d2 (by simp) d4 d5
 refine Qg d1 ?_ (Wt d3) d4 ?_
 ·simp only[Kt,List.length_singleton];have:¬40<=x.2.1.length:=fun h=>hc (.inr (.inr (.inr h)));omega
 intro w hw;rcases Kca.1 hw with hw|hw
 ·exact d5 w hw
 simp only[Koa]at hw;subst hw;have h1:0<=n/\n<=(x.1.length:Int)-1:=Decidable.not_not.1 fun h=>hc (.inr (.inl h));have h2:¬120<b.length:=fun h=>hc (.inr (.inr (.inl h)));exact⟨h1.1,h1.2,by simp only;omega⟩
theorem Z0 {x:Dv}(h:dOk x=true):dOk (flC x.1 x.2.1 x.2.2.1 x.2.2.2)=true:=by
 obtain⟨d1,d2,d3,d4,d5⟩:=H6 (show Ce x.1 x.2.1 x.2.2.1=true from h);unfold flC;split
 ·exact h
 split
 ·exact Qg d1 d2 (by simp) d4 d5
 refine Qg ?_ (by simp) (Wt d3) ?_ ?_
 ·simpa using d1
 ·exact Zvp d4 fun w hw=>(d5 w hw).2.2
 intro w hw;cases hw
theorem wr2 {x:Dv}{n:Int}{b:List UInt8}(h:dOk x=true) (hb:b.length<=1048576) :
  Ji (x,(n,b))=some (x.1,wrC x.1 x.2.1 x.2.2.1 x.2.2.2 n b)/\Mq (x,(n,b))=some (wrC x.1 x.2.1 x.2.2.1 x.2.2.2 n b):=by
 have hsm:=Vo h;obtain⟨d1,d2,d3,d4,d5⟩:=H6 (show Ce x.1 x.2.1 x.2.2.1=true from h);constructor
 ·rw[Yps hsm hb];unfold wrD;rw[Ydv (show Ce x.1 x.2.1 x.2.2.1=true from h)]
 exact Yuf hsm d3 hb
theorem fl2 {x:Dv}(h:dOk x=true):Lm x=some (flC x.1 x.2.1 x.2.2.1 x.2.2.2)/\Lq x=some (flC x.1 x.2.1 x.2.2.1 x.2.2.2):=by
 have hsm:=Vo h;obtain⟨d1,d2,d3,d4,d5⟩:=H6 (show Ce x.1 x.2.1 x.2.2.1=true from h);constructor
 ·rw[Ypc hsm];unfold flD;rw[Zvn (show Ce x.1 x.2.1 x.2.2.1=true from h)]
 exact Yt0 hsm d3 (fun w hw=>⟨(d5 w hw).1,(d5 w hw).2.1⟩)
def Df (g i:Int):Int:=Aj .i64 (Aj .i64 2 (Dd .i64 30 (De g 2))) i
def stp (g:Int) (rs:List Rec) (D:Dv) (i:Nat):Dv:=(D.1,wrC D.1 D.2.1 D.2.2.1 D.2.2.2 (Df g i) (Ck g i (rs.getD i (Jw 0))))
def dAt (g:Int) (rs:List Rec) (D:Dv):Nat->Dv
 | 0=>D
 | i+1=>stp g rs (dAt g rs D i) i
theorem Vn {g:Int}{rs:List Rec}{D:Dv}(h:dOk D=true):∀i,dOk (dAt g rs D i)=true
 | 0=>h
 | i+1=>Uo (Vn h i)
theorem Zfb {g:Int}{rs:List Rec}{D:Dv}:∀i,(dAt g rs D i).1=D.1
 | 0=>rfl
 | i+1=>Zfb (D:=D) i
theorem Zhe (g i:Int) (r:Rec):(Ck g i r).length<=1048576:=by
 unfold Ck Rk;split
 ·have:=Zph g i r;rw[Kt,Ns];omega
 simp
theorem Zwb (g n:Int):(D1 g n).length<=1048576:=by rw[Zwa];split<;>omega
def Cg (g:Int) (rs:List Rec) (D:Dv):Dv :=
 let d1:=dAt g rs D rs.length
 let d2:=flC d1.1 d1.2.1 d1.2.2.1 d1.2.2.2
 let d3:Dv:=(d2.1,wrC d2.1 d2.2.1 d2.2.2.1 d2.2.2.2 (De g 2) (D1 g rs.length))
 flC d3.1 d3.2.1 d3.2.2.1 d3.2.2.2
theorem Th {g:Int}{rs:List Rec}{D:Dv}(h:dOk D=true):dOk (Cg g rs D)=true:=Z0 (x:=(_,_)) (Uo (Z0 (Vn h _)))
theorem Zmi {rs:List Rec}{i:Nat}(h:i<rs.length):rs.getD i (Jw 0)=rs[i]:=by simp [h]
theorem Ztr {g:Int}{rs:List Rec}{D:Dv}{i:Nat}(hi:i<rs.length):dAt g rs D (i+1)=((dAt g rs D i).1,wrC (dAt g rs D i).1 (dAt g rs D i).2.1 (dAt g rs D i).2.2.1 (dAt g rs D i).2.2.2 (Df g i) (Ck g i rs[i])):=by
 show stp g rs (dAt g rs D i) i=_;unfold stp;rw[Zmi hi]
theorem Ya5 {D:Dv}{T:List Row×Int×List Mk}{gp:Int×Int}{g:Int}{rs:List Rec}(hD:dOk D=true) (hR:Ym T=some rs) (hl:rs.length<=4194304) (hr:∀r∈rs,smC 1048576 r) :
  P2 ((D,(T,gp)),g)=some ((Cg g rs D).1,((Cg g rs D).2.1,((Cg g rs D).2.2.1,((Cg g rs D).2.2.2,(T.2.1,if (Cg g rs D).2.2.2=true then gp else (g,(rs.length:Int))))))):=by
 rw[P2];simp only;rw[hR,Aa];rw[show Aw (Zd7 ((D,(T,gp)),g) rs) (D.2.1,(D.2.2.1,(D.2.2.2,0)))=some (.inl (dAt g rs D rs.length).2) from I3 (fun i=>((dAt g rs D i).2.1,((dAt g rs D i).2.2.1,((dAt g rs D i).2.2.2,(i:Int))))) rs.length _ (fun i hi=>by
   have hk:=Vn (g:=g) (rs:=rs) hD i;have h1:=Zfb (g:=g) (rs:=rs) (D:=D) i;rw[Zd7];simp only;rw[A3 (by rw[Ak];omega),Ad,show U6 (g,(i:Int))=some (Df g i) from rfl,Aa,Bp hi,Aa,Ya1 (hr _ (Kcb hi)),Aa];have e:∀S1,S1=(dAt g rs D i).1->Mq ((S1,(dAt g rs D i).2),(Df g i,Ck g i rs[i]))=some (wrC (dAt g rs D i).1 (dAt g rs D i).2.1 (dAt g rs D i).2.2.1 (dAt g rs D i).2.2.2 (Df g i) (Ck g i rs[i])):=by
    rintro _ rfl;exact (wr2 (x:=dAt g rs D i) (n:=Df g i) (b:=Ck g i rs[i]) hk (Zhe _ _ _)).2
   rw[show Mq ((D.1,((dAt g rs D i).2.1,((dAt g rs D i).2.2.1,(dAt g rs D i).2.2.2))),(Df g i,Ck g i rs[i]))=some (wrC (dAt g rs D i).1 (dAt g rs D i).2.1 (dAt g rs D i).2.2.1 (dAt g rs D i).2.2.2 (Df g i) (Ck g i rs[i])) from e D.1 h1.symm,Aa,C4 (by omega)];rw[Ztr hi]) (by
   rw[Zd7];simp only;rw[A6 (by rw[Ak];omega),Ac]) _ rfl,Ar]
 have hk:=Vn (g:=g) (rs:=rs) hD rs.length;have h1:=Zfb (g:=g) (rs:=rs) (D:=D) rs.length;have f1:=(fl2 hk).2;have k2:=Z0 hk;generalize hd2:flC (dAt g rs D rs.length).1 (dAt g rs D rs.length).2.1 (dAt g rs D rs.length).2.2.1 (dAt g rs D rs.length).2.2.2=d2 at f1 k2;have w3:=(wr2 (x:=d2) (n:=De g 2) (b:=D1 g rs.length) k2 (Zwb _ _)).2;have k3:=Uo (n:=De g 2) (b:=D1 g rs.length) k2;have f3:=(fl2 k3).2;have ef:∀S1,S1=(dAt g rs D rs.length).1->Lq (S1,(dAt g rs D rs.length).2)=some d2:=by
  rintro _ rfl;exact f1
 rw[ef D.1 h1.symm,Aa,Ak,Yt3,Aa,w3,Aa];rw[show Lq (d2.1,wrC d2.1 d2.2.1 d2.2.2.1 d2.2.2.2 (De g 2) (D1 g (rs.length:Int)))=_ from f3,Aa];have hlay:Cg g rs D=flC d2.1 (wrC d2.1 d2.2.1 d2.2.2.1 d2.2.2.2 (De g 2) (D1 g rs.length)).1 (wrC d2.1 d2.2.1 d2.2.2.1 d2.2.2.2 (De g 2) (D1 g rs.length)).2.1 (wrC d2.1 d2.2.1 d2.2.2.1 d2.2.2.2 (De g 2) (D1 g rs.length)).2.2:=by
  unfold Cg;simp only[hd2]
 rw[<-hlay];cases hdn:(Cg g rs D).2.2.2 with
 | true=>simp only[A5,Av,Ad,Ac,hdn,if_true]
 | false=>simp only[A5,Av,Ad,Ac,hdn];rfl
end
end Go.Vs
