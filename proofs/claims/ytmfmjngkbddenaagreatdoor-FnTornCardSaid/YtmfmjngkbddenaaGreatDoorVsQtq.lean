import Derived.Test.YtmfmjngkbddenaaGreatDoorVsQtp
set_option linter.all false
namespace Go.Vs
noncomputable section
theorem Zmc (n:Int):∀(l:List Wr) (j:Nat) (s:List (List UInt8)) (i:Nat) (hi:i<s.length),(∀w∈l,0<=w.1)->(faL n j s l)[i]? = some s[i]\/∃w∈l,w.1=(i:Int)/\(faL n j s l)[i]? = some w.2
 | [],j,s,i,hi,_=>.inl (by simp [faL,hi])
 | w::l,j,s,i,hi,h=>by
  have hw:=h w Kp;have e:faL n j s (w::l)=faL n (j+1) (if Ox n j then s.set w.1.toNat w.2 else s) l:=rfl;rw[e];cases hk:Ox n j with
  | false =>
   simp only[Kka,if_false];rcases Zmc n l (j+1) s i hi (fun x hx=>h x (Kj _ hx)) with h1|⟨v,h1,h2,h3⟩
   ·exact .inl h1
   exact .inr ⟨v,Kj _ h1,h2,h3⟩
  | true =>
   simp only[if_true];rcases Zmc n l (j+1) (s.set w.1.toNat w.2) i (by simpa using hi) (fun x hx=>h x (Kj _ hx)) with h1|⟨v,h1,h2,h3⟩
   ·rw[List.getElem_set]at h1;by_cases hq:w.1=(i:Int)
    ·rw[if_pos (by omega)]at h1;exact .inr ⟨w,Kp,hq,h1⟩
    rw[if_neg (by omega)]at h1;exact .inl h1
   exact .inr ⟨v,Kj _ h1,h2,h3⟩
theorem Zts {g:Int}{rs:List Rec}{D:Dv}{f:Int}(hd:D.2=([],(f,false))) (hf:-1<=f/\f<=1000) (hl:D.1.length=62) (hg:0<=g) (hr:rs.length<=30):∀i,i<=rs.length->∃(j:Nat) (f':Int) (b:Bool),j<=i/\dAt g rs D i=(D.1,(cw g rs j,(f',b)))/\(b=false->j=i/\-1<=f'/\f'<=1000)
 | 0,_=>⟨0,f,false,Kc _,by obtain⟨a,b⟩:=D;simp only at hd;subst hd;rfl,fun _=>⟨rfl,hf⟩⟩
 | i+1,hi=>by
  obtain⟨j,f',b,h1,h2,h3⟩:=Zts hd hf hl hg hr i (by omega);have hs:dAt g rs D (i+1)=stp g rs (dAt g rs D i) i:=rfl;rw[hs,h2];unfold stp;simp only;cases b with
  | true=>exact⟨j,f',true,by omega,by rw[Mm (.inl rfl)],by simp⟩
  | false =>
   obtain⟨rfl,hf'⟩:=h3 rfl;have e:=Pg (g:=g) (j:=j) hg (by omega);have b:=Ri (g:=g) (j:=j) (by omega);have l:=Zhd g j (rs.getD j (Jw 0));have c:=Zlb (g:=g) (rs:=rs) j;have no:¬(false=true\/¬(0<=Df g j/\Df g j<=(D.1.length:Int)-1)\/120<(Ck g j (rs.getD j (Jw 0))).length\/40<=(cw g rs j).length):=by
    rintro (h|h|h|h)
    ·cases h
    ·exact h (by rw[e,hl];omega)
    ·omega
    omega
   by_cases h0:f'=0
   ·exact⟨j,-1,true,by omega,by rw[Zci no h0],by simp⟩
   exact⟨j+1,opF f',false,Kc _,by rw[Rr no h0];rfl,fun _=>⟨rfl,Wt hf'⟩⟩
theorem Yqz {g:Int}{rs:List Rec}{D:Dv}{f:Int}(hd:D.2=([],(f,false))) (hf:-1<=f/\f<=1000) (hl:D.1.length=62) (hg:0<=g) (hr:rs.length<=30) :
  (∃j f',j<=rs.length/\Cg g rs D=(D.1,(cw g rs j,(f',true)))) \/
  (∃c f',(c=[]\/c=[((hn g:Int),D1 g rs.length)])/\Cg g rs D=(flL D.1 (cw g rs rs.length),(c,(f',true)))) \/
  ∃f',(-1<=f'/\f'<=1000)/\Cg g rs D=((flL D.1 (cw g rs rs.length)).set (hn g) (D1 g rs.length),([],(f',false))):=by
 obtain⟨j,f',b,h1,h2,h3⟩:=Zts hd hf hl hg hr rs.length (Kc _);unfold Cg;simp only;rw[h2];simp only;cases b with
 | true=>exact .inl ⟨j,f',h1,by rw[Sz rfl];simp only;rw[Mm (.inl rfl)];simp only;rw[Sz rfl]⟩
 | false =>
  obtain⟨rfl,hf'⟩:=h3 rfl;by_cases h0:f'=0
  ·exact .inl ⟨rs.length,-1,Kc _,by rw[Z1 h0];simp only;rw[Mm (.inl rfl)];simp only;rw[Sz rfl]⟩
  have b:=V6 (g:=g);have l:=Zv9 g rs.length;have no:¬(false=true\/¬(0<=(hn g:Int)/\(hn g:Int)<=((flL D.1 (cw g rs rs.length)).length:Int)-1)\/120<(D1 g rs.length).length\/40<=([]:List Wr).length):=by
   rintro (h|h|h|h)
   ·cases h
   ·exact h (by rw[S3,hl];omega)
   ·omega
   simp at h
  rw[Oj h0];simp only;rw[Zhj hg];by_cases h5:opF f'=0
  ·exact .inr (.inl ⟨[],-1,.inl rfl,by rw[Zci no h5];simp only;rw[Sz rfl]⟩)
  rw[Rr no h5];simp only;by_cases h6:opF (opF f')=0
  ·exact .inr (.inl ⟨_,-1,.inr rfl,by rw[Z1 h6];rfl⟩)
  exact .inr (.inr ⟨_,Wt (Wt (Wt hf')),by rw[Oj h6];rfl⟩)
def Mix (S S':List (List UInt8)) (g:Int) (rs:List Rec):Prop:=S'.length=S.length/\∀m,S'.getD m []=S.getD m []\/∃j,j<rs.length/\m=sn g j/\S'.getD m []=Ck g j (rs.getD j (Jw 0))
theorem Zlc {g:Int}{rs:List Rec}{w:Wr}:∀i,w∈cw g rs i->∃j:Nat,j<i/\w=(Df g j,Ck g j (rs.getD j (Jw 0)))
 | 0,h=>by cases h
 | i+1,h=>by
  rcases Kca.1 h with h|h
  ·obtain⟨j,h1,h2⟩:=Zlc i h;exact⟨j,by omega,h2⟩
  rw[Koa]at h;exact⟨i,by omega,h⟩
theorem Yrn {S:List (List UInt8)}{g n:Int}{rs:List Rec}{j:Nat}(hg:0<=g) (hj:j<=rs.length) (hr:rs.length<=30):Mix S (faL n 0 S (cw g rs j)) g rs:=by
 refine⟨Zy _ _ _ _,fun m=>?_⟩;by_cases hm:m<S.length
 ·have hn:∀w∈cw g rs j,0<=w.1:=fun w hw=>by
   obtain⟨i,h1,rfl⟩:=Zlc j hw;simp only;rw[Pg hg (by omega)];omega
  rcases Zmc n (cw g rs j) 0 S m hm hn with h|⟨w,hw,e,h⟩
  ·exact .inl (by simp [Kld,h,hm])
  obtain⟨i,h1,rfl⟩:=Zlc j hw;simp only at e;rw[Pg hg (by omega)]at e;exact .inr ⟨i,by omega,by omega,by simp [Kld,h]⟩
 have e1:(faL n 0 S (cw g rs j)).length<=m:=by rw[Zy];omega
 exact .inl (by simp only[Kld];rw[Kjc e1,Kjc (by omega)])
theorem Yrm {S:List (List UInt8)}{g:Int}{rs:List Rec}(hl:S.length=62) (hg:0<=g) (hr:rs.length<=30):Mix S (flL S (cw g rs rs.length)) g rs:=by
 obtain⟨a,b⟩:=Zla (g:=g) (rs:=rs) hl hg rs.length hr;refine⟨S3 _ _,fun m=>?_⟩;by_cases h:∃j,j<rs.length/\m=sn g j
 ·obtain⟨j,h1,rfl⟩:=h;exact .inr ⟨j,h1,rfl,a j h1⟩
 exact .inl (b m fun j hj e=>h ⟨j,hj,e⟩)
theorem Zx8 {S S':List (List UInt8)}{g:Int}{t:Tab}{p:Nat}(H:Weak S g t p) (hg:g<60000) (hM:Mix S S' (g+1) (A8 t)):Weak S' g t p:=by
 have hr:=W2 H.tab;have hp:=H.pl;have h1:=H.gen;obtain⟨hl,hM⟩:=hM;have un:∀m,(∀j,j<30->m≠sn (g+1) j)->S'.getD m []=S.getD m []:=fun m hm=>by
  rcases hM m with h|⟨j,h1,h2,_⟩
  ·exact h
  exact absurd h2 (hm j (by omega))
 have ua:∀j,j<30->S'.getD (sn g j) []=S.getD (sn g j) []:=fun j hj=>un _ fun i hi e=>Zqf hi hj e.symm;have uh:∀g',S'.getD (hn g') []=S.getD (hn g') []:=fun g'=>un _ fun i hi e=>Uc e.symm;obtain⟨T,t0,t1,tr⟩:=H.run;refine⟨⟨by rw[hl,H.len],H.gen,H.tab,H.pl,⟨T,t0,t1,fun j hj=>?_⟩,fun j hj hj2=>?_, ?_, ?_⟩,fun j hj=>?_,fun j hj hj2=>?_⟩
 ·rw[ua j (by omega)];exact tr j hj
 ·rw[ua j hj2];exact H.free j hj hj2
 ·rw[uh];exact H.head
 ·rw[uh];exact H.ohead
 ·rcases hM (sn (g+1) j) with h|⟨i,i1,i2,i3⟩
  ·rw[h];exact H.oth1 j hj
  intro x hx;rw[i3,Zmi i1,Zmj (Zze H.tab i i1).1 (by omega) (by omega) (by omega) (by omega),Ka]at hx;subst hx;simp only;omega
 rcases hM (sn (g+1) j) with h|⟨i,i1,i2,i3⟩
 ·rw[h];exact H.oth2 j hj hj2
 have:=Zbt i2;omega
theorem Yq2 {S:List (List UInt8)}{g:Int}{t:Tab}{p:Nat}(H:Weak S g t p) (hg:g<60000):Hold ((flL S (cw (g+1) (A8 t) (A8 t).length)).set (hn (g+1)) (D1 (g+1) (A8 t).length)) (g+1) t (A8 t).length:=by
 have hr:=W2 H.tab;have h1:=H.gen;obtain⟨a,b⟩:=Zwg H.toCore;have h:=(Zny (D:=(S,([],(-1,false)))) (g:=g+1) ⟨rfl,rfl⟩ rfl H.len H.tab (by omega) H.oth2 a b).1;rw[Zxo (D:=(S,([],(-1,false)))) ⟨rfl,rfl⟩ rfl H.len (by omega) (by omega)]at h;exact h
theorem Oi {x:Dv}{n:Int}(h:dOk x=true):dOk (faD x n)=true/\(faD x n)=(faL (faN n) 0 x.1 x.2.1,([],(-1,false))):=by
 obtain⟨d1,d2,d3,d4,d5⟩:=H6 (show Ce x.1 x.2.1 x.2.2.1=true from h);have e:faD x n=(faL (faN n) 0 x.1 x.2.1,([],(-1,false))):=Zvb h;rw[e];exact⟨Qg (by simp only[Zy];exact d1) (by simp) (by simp) (Zvd d4 fun w hw=>(d5 w hw).2.2) (fun w hw=>by cases hw),rfl⟩
theorem Zxq {D:Dv}{g:Int}{t:Tab}{p:Nat}{f:Int}(hk:dOk D=true) (hd:D.2=([],(f,false))) (H:Weak D.1 g t p) (hg:g<60000) :
  (∀n,∃(g':Int) (p':Nat),g'<=g+1/\Weak (faD (Cg (g+1) (A8 t) D) n).1 g' t p')/\((Cg (g+1) (A8 t) D).2.2.2=false->Hold (Cg (g+1) (A8 t) D).1 (g+1) t (A8 t).length/\∃f',(-1<=f'/\f'<=1000)/\(Cg (g+1) (A8 t) D).2=([],(f',false))):=by
 have hr:=W2 H.tab;have h1:=H.gen;have hf:=(H6 (show Ce D.1 D.2.1 D.2.2.1=true from hk)).2.2.1;rw[hd]at hf;have ho:=Th (g:=g+1) (rs:=A8 t) hk;have hdone:=Yq2 H hg;rcases Yqz (g:=g+1) (rs:=A8 t) hd hf H.len (by omega) (by omega) with ⟨j,f',j1,e⟩|⟨c,f',c1,e⟩|⟨f',f1,e⟩
 ·rw[e]at ho ⊢;refine⟨fun n=>⟨g,p,by omega, ?_⟩,fun h=>by cases h⟩;rw[(Oi ho).2];exact Zx8 H hg (Yrn (by omega) j1 (by omega))
 ·rw[e]at ho ⊢;refine⟨fun n=>?_,fun h=>by cases h⟩;rw[(Oi ho).2];have hm:=Zx8 H hg (Yrm H.len (by omega) (by omega));rcases c1 with rfl|rfl
  ·exact⟨g,p,by omega,hm⟩
  simp only[faL];split
  ·exact⟨g+1,(A8 t).length,Koc _,hdone.weak⟩
  exact⟨g,p,by omega,hm⟩
 rw[e]at ho ⊢;refine⟨fun n=>⟨g+1,(A8 t).length,Koc _, ?_⟩,fun _=>⟨hdone,f',f1,rfl⟩⟩;rw[(Oi ho).2];exact hdone.weak
end
end Go.Vs
