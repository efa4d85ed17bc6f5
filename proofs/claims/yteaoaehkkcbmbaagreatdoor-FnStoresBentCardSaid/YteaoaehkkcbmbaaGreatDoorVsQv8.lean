import Derived.Test.YteaoaehkkcbmbaaGreatDoorVsQv7
set_option linter.all false
namespace Go.Vs
noncomputable section
def bj(l:List A8)(a:List UInt8):Int:=match l.findIdx? (λr=>r.1==a) with
 |some i=>(i:Int)
 |none=>-1
def Zmn{t:B9}{a:List UInt8}(h:t.1.length<9223372036854775807):Ul (t,a)=some (bj t.1 a):=by
 unfold Ul bj;exact gq (λi=>(i:Int)) t.1 (λr=>r.1==a) (λi=>(i:Int)) (-1) (λi b=>by
  unfold eU;simp only;rw[Bw (by simp only[Av];omega),Ah,BK b,Ad,WD,oO,CX (by omega)]) (by
  unfold eU;simp only;rw[B1 (by simp only[Av];omega),Ag]) _ rfl
def uU{x y:UInt8}{a b:List UInt8}:FB (x::a) (y::b)=true ↔ x.toNat<y.toNat\/(x=y/\FB a b=true):=by
 simp only[FB,Op.bytesLess,CE,A6,AA,CJ];rw[UInt8.lt_iff_toNat_lt]
def bq{a:List UInt8}:FB a []=false:=by cases a<;>rfl
def kR:∀a:List UInt8,FB a a=false
 |[]=>rfl
 |x::a=>by
  cases h:FB (x::a) (x::a) with
  |false=>rfl
  |true=>
   rcases uU.1 h with h|⟨_,h⟩
   .omega
   rw[kR a]at h;cases h
def Zl6:∀{a b c:List UInt8},FB a b=true->FB b c=true->FB a c=true:=by
 intro a
 induction a with
 |nil=>intro b c e d;cases b with
  |nil=>rw[bq]at e;cases e
  |cons y b=>cases c with
   |nil=>rw[bq]at d;cases d
   |cons z c=>rfl
 |cons x a f=>
  intro b c e d;cases b with
  |nil=>rw[bq]at e;cases e
  |cons y b=>cases c with
   |nil=>rw[bq]at d;cases d
   |cons z c=>
    rw[uU]at e d ⊢;rcases e with e|⟨rfl,e⟩
    .rcases d with d|⟨rfl,d⟩
     .left;omega
     exact .inl e
    rcases d with d|⟨rfl,d⟩
    .exact .inl d
    exact .inr ⟨rfl,f e d⟩
abbrev Jk:=List UInt8×(Int×Option (List UInt8))×(Int×Option (List UInt8))×Int×Bool
abbrev J1:Ty:=.P .S (.P (.P (.I .i64) (.L .Y)) (.P (.P (.I .i64) (.L .Y)) (.P (.I .i64) .B)))
abbrev Mr:Ty:=.P .S (.P (.P (.I .i64) (.H .Y)) (.P (.P (.I .i64) (.H .Y)) (.P (.I .i64) .B)))
def Cp(r:A8):Jk:=(r.1,((r.2.1.1,some r.2.1.2),((r.2.2.1.1,some r.2.2.1.2),r.2.2.2)))
def OD(r:A8):Jk:=(r.1,((r.2.1.1,none),((r.2.2.1.1,none),r.2.2.2)))
def ZA:∀l:List A8,Ge J1 Mr l=some (l.map Cp)
 |[]=>rfl
 |r::l=>by
  have e:cv J1 Mr r=some (Cp r):=rfl;simp only[Ge,e,ZA l,A2]
def Z9:∀l:List A8,Ge Mr J1 (l.map Cp)=some l
 |[]=>rfl
 |r::l=>by
  have e:cv Mr J1 (Cp r)=some r:=rfl;simp only[A2,Ge,e,Z9 l]
def aw(l:List A8)(k:Nat):List Jk:=Iq J1 0 k l
def Zkb(l:List A8)(k:Nat):aw l k=(l.take k).map OD++(l.drop k).map Cp:=by
 have e:aw l k=(l.take k).map OD++(l.drop (0+k)).map Cp:=rfl;rw[e,A7]
def Zka(l:List A8)(k:Nat):(aw l k).drop (k+1)=(l.drop (k+1)).map Cp:=by
 rw[Zkb,List.drop_append,Yw (by simp;omega),A0,B3,EF,<-F4,MC];by_cases h:k<=l.length
 .rw[PI h,show k+(k+1-k)=k+1 by omega]
 rw[Yw (by omega),Yw (by omega)]
def Zke(l:List A8)(k:Nat)(h:k<=l.length):(Iq J1 0 k l).length=l.length:=sF J1 0 k l (by omega)
def Zkc(l:List A8)(k n:Nat):Ge Mr J1 (BA n (E9 (k+1) (Iq J1 0 k l)))=some ((l.drop (k+1)).take n):=by
 have e:Ge Mr J1 (((aw l k).drop (k+1)).take n)=some ((l.drop (k+1)).take n):=by
  rw[Zka,<-Fp,Z9]
 exact e
def TD(r:A8)(s:List A8×Bool)(x:A8):List A8×Bool:=
 let a:=if (!s.2&&!(FB x.1 r.1))=true then (s.1++[r],true) else s
 if Dc x.1 r.1=true then a else (a.1++[x],a.2)
def FF(l:List A8)(r:A8)(i:Nat):List A8×Bool:=(l.take i).foldl (TD r) ([],false)
def NN(l:List A8)(r:A8):List A8:=if (FF l r l.length).2=true then (FF l r l.length).1 else (FF l r l.length).1++[r]
def GW(l:List A8)(r:A8)(i:Nat):List Jk:=(l.take i).map (λx=>if Dc x.1 r.1=true then Cp x else OD x)++(l.drop i).map Cp
def dK{l:List A8}{r:A8}{i:Nat}(h:i<l.length):FF l r (i+1)=TD r (FF l r i) l[i]:=by
 unfold FF;rw[I8 h,RO];rfl
def TE(l:List A8)(r:A8):∀i,i<=l.length->(FF l r i).1.length+(if (FF l r i).2=true then 0 else 1)<=i+1
 |0,_=>by simp[FF]
 |i+1,h=>by
  have a:=TE l r i (by omega);rw[dK (by omega)];generalize FF l r i=s at a;obtain⟨o,p⟩:=s;unfold TD;cases p<;>cases FB l[i].1 r.1<;>cases Dc l[i].1 r.1<;>simp at a ⊢<;>omega
def mE(l:List A8)(r:A8):∀i,i<=l.length->∀x∈(FF l r i).1,x=r\/x∈l
 |0,_,x,a=>by simp[FF]at a
 |i+1,h,x,a=>by
  have c:=mE l r i (by omega);rw[dK (by omega)]at a;generalize FF l r i=s at c a;obtain⟨o,p⟩:=s;have d:=EN (show i<l.length by omega);have b:x∈o\/x=r\/x=l[i]:=by
   revert a
   unfold TD;cases p<;>cases FB l[i].1 r.1<;>cases Dc l[i].1 r.1<;>simp<;>intro a<;>first|exact .inl a|(rcases a with h|h|h<;>simp[h])|(rcases a with h|h<;>simp[h])
  rcases b with h|h|h
  .exact c x h
  .exact .inl h
  exact .inr (h ▸ d)
def Zp6(l:List A8)(r:A8):(NN l r).length<=l.length+1:=by
 have:=TE l r l.length (AE _);unfold NN;split
 .omega
 rename_i h;rw[Ae h]at this;simp;omega
def Zp7{l:List A8}{r x:A8}(h:x∈NN l r):x=r\/x∈l:=by
 unfold NN at h;split at h
 .exact mE l r _ (AE _) x h
 rcases C7.1 h with h|h
 .exact mE l r _ (AE _) x h
 exact .inl (by simpa using h)
def aU{l:List A8}{r:A8}{i:Nat}(h:i<=l.length):(GW l r i).length=l.length:=by
 simp only[GW,Cb,B3,EF,Di];omega
def iG{l:List A8}{r:A8}{i:Nat}(h:i<l.length):(GW l r i)[i]?= some (Cp l[i]):=by
 unfold GW;rw[Dh (by simp;omega)];simp only[B3,EF];rw[show i-min i l.length=0 by omega,CQ,F2,AL,BW h];rfl
def qh{l:List A8}{r:A8}{i:Nat}(h:i<l.length):(GW l r i).set i (if Dc l[i].1 r.1=true then Cp l[i] else OD l[i])=GW l r (i+1):=by
 unfold GW;rw[Yu _ _ (by simp;omega),H1 h,I8 h];simp only[B3,EF,A2,C2,CB,EG];rw[show i-min i l.length=0 by omega];rfl
def qg{l:List A8}{r:A8}{i:Nat}(h:i<l.length)(a:Dc l[i].1 r.1=true):GW l r i=GW l r (i+1):=by
 rw[<-qh h,Af a];apply MA;intro j;rw[Fo];split
 .rename_i e;subst e;rw[Af (by rw[aU (by omega)];exact h)];exact iG h
 rfl
def qf{l:List A8}{r:A8}{i:Nat}(h:i<l.length)(a:Dc l[i].1 r.1=false):(GW l r i).set i (OD l[i])=GW l r (i+1):=by
 rw[<-qh h,Ae (by simp[a])]
def Zm1{l:List A8}{r:A8}(z:l.length<=1048576)(w:Fz 1048576 r):Up (l.map Cp,r)=some (NN l r):=by
 have h:=WC w;have lp:Bd (YT (l.map Cp,r)) (l.map Cp,([],(false,0)))=some (.inl (FF l r l.length)):=by
  refine HI (λi=>(GW l r i,((FF l r i).1,((FF l r i).2,(i:Int))))) l.length _ (λi d=>?_) ?_ _ (by simp[GW,FF])
  .have f:(GW l r i).length=l.length:=aU (by omega);have e:=iG (r:=r) d;have a:=TE l r i (by omega);have b:∀X,((GW l r i).set i X)[i]?= some X:=λX=>L6 (by omega);have t:=qf (r:=r) d;have g:=qg (r:=r) d;rw[YT];simp only[dK d,TD];rw[Bw (by rw[Av,f];omega),Ah];simp only[Q0,VH,Gv,e,Ad,BS,b,MB,Ax];generalize FF l r i=s at a;obtain⟨o,p⟩:=s;simp only at a;have x:Bk (o.length+1) 96=true:=B8 (by split at a<;>omega)
   have y:Bk ((o++[r]).length+1) 96=true:=B8 (by simp;split at a<;>omega)
   have j:(Cp l[i]).1=l[i].1:=rfl;have k:Ik (Cp l[i]).2.1.2=true:=rfl;have m:Ik (Cp l[i]).2.2.1.2=true:=rfl;have n:(l[i].1,((Cp l[i]).2.1.1,JB (Cp l[i]).2.1.2),((Cp l[i]).2.2.1.1,JB (Cp l[i]).2.2.1.2),(Cp l[i]).2.2.2)=l[i]:=rfl;have q:(l[i].1,((Cp l[i]).2.1.1,none),((Cp l[i]).2.2.1.1,none),(Cp l[i]).2.2.2)=OD l[i]:=rfl;simp only[j,k,m,n,q,AY,h,Ad,CX (show i<9223372036854775807 by omega)];cases p<;>cases u:FB l[i].1 r.1<;>cases c:Dc l[i].1 r.1 <;>
    simp only[Bf,B2,Ah,Ag,Ad,x,y,AY,A4,Od,RH,PL,PN,I7,M7,BF,C6,BC] <;>
    first
     |rw[<-g c]
     |rw[t c]
  rw[YT];simp only;rw[B1 (by rw[Av,aU (AE _)];omega),Ag]
 rw[Up];simp only;rw[lp,A4,h,Ad];have a:=TE l r l.length (AE _);unfold NN;cases v:(FF l r l.length).2 with
 |true=>rw[Bf,Ag,A4,Af rfl]
 |false=>
  rw[v]at a;rw[B2,Ah,B8 (by simp at a;omega),AY,A4,Ae (by simp)];rfl
def Zis{l:List A8}{r:A8}(z:l.length<=1048576)(w:Fz 1048576 r):TV (l.map Cp,r)=some (NN l r):=by
 have g:=iI w;have lp:Bd (YE (l.map Cp,r)) ([],(false,(l.map Cp,0)))=some (.inl (FF l r l.length)):=by
  refine HI (λi=>((FF l r i).1,((FF l r i).2,(GW l r i,(i:Int))))) l.length _ (λi d=>?_) ?_ _ (by simp[GW,FF])
  .have t:(GW l r i).length=l.length:=aU (by omega);have e:=iG (r:=r) d;have a:=TE l r i (by omega);have b:∀X,((GW l r i).set i X)[i]?= some X:=λX=>L6 (by omega);have q:=qf (r:=r) d;have f:=qg (r:=r) d;rw[YE];simp only[dK d,TD];rw[Bw (by rw[Av,B3];omega),Ah];simp only[Q0,VH,Gv,e,Ad,BS,b,MB,Ax];generalize FF l r i=s at a;obtain⟨o,p⟩:=s;simp only at a;have x:Bk (o.length+1) 96=true:=B8 (by split at a<;>omega)
   have y:Bk ((o++[r]).length+1) 96=true:=B8 (by simp;split at a<;>omega)
   have h:(Cp l[i]).1=l[i].1:=rfl;have j:Ik (Cp l[i]).2.1.2=true:=rfl;have k:Ik (Cp l[i]).2.2.1.2=true:=rfl;have m:(l[i].1,((Cp l[i]).2.1.1,JB (Cp l[i]).2.1.2),((Cp l[i]).2.2.1.1,JB (Cp l[i]).2.2.1.2),(Cp l[i]).2.2.2)=l[i]:=rfl;have n:(l[i].1,((Cp l[i]).2.1.1,none),((Cp l[i]).2.2.1.1,none),(Cp l[i]).2.2.2)=OD l[i]:=rfl;simp only[h,j,k,m,n,AY,g,Ad,CX (show i<9223372036854775807 by omega)];cases p<;>cases u:FB l[i].1 r.1<;>cases c:Dc l[i].1 r.1 <;>
    simp only[Bf,B2,Ah,Ag,Ad,x,y,AY,A4,Od,RH,PL,PN,I7,M7,BF,C6,BC] <;>
    first
     |rw[<-f c]
     |rw[q c]
  rw[YE];simp only;rw[B1 (by rw[Av,B3];omega),Ag]
 rw[TV];simp only;rw[lp,A4,g,Ad];have a:=TE l r l.length (AE _);unfold NN;cases v:(FF l r l.length).2 with
 |true=>rw[Bf,Ag,A4,Af rfl]
 |false=>
  rw[v]at a;rw[B2,Ah,B8 (by simp at a;omega),AY,A4,Ae (by simp)];rfl
def HF(a:List UInt8)(x:A8):Bool:=!(x.1==a)
def HZ(l:List A8)(a:List UInt8):List A8:=l.filter (HF a)
abbrev xK:=Int×List UInt8×Int×Int×Int×Bool×List UInt8×Int×Int×Int×Int
def Si(r:Bo):xK:=(r.1,(r.2.1.1,(r.2.1.2.1.1,(r.2.1.2.2.1.1,(r.2.1.2.2.2.1,(r.2.1.2.2.2.2,(r.2.2.1,(r.2.2.2.1,(r.2.2.2.2.1,(r.2.2.2.2.2.1,r.2.2.2.2.2.2))))))))))
def iS(r:Bo)(i:Nat):Int×List UInt8×Int×Int×Int×Bool×List UInt8×Int×Int×Int×Int×Int:=(r.1,(r.2.1.1,(r.2.1.2.1.1,(r.2.1.2.2.1.1,(r.2.1.2.2.2.1,(r.2.1.2.2.2.2,(r.2.2.1,(r.2.2.2.1,(r.2.2.2.2.1,(r.2.2.2.2.2.1,(r.2.2.2.2.2.2,(i:Int))))))))))))
def Zh8{l:List A8}{r:Bo}(b:l.length<=1048576):Ye (l,r)=some (match l.findIdx? (λx=>x.1==r.2.2.1) with|some i=>((i:Int),Si r)|none=>(-1,Si r)):=by
 rw[Ye];exact gq (iS r) l (λx=>x.1==r.2.2.1) (λi=>((i:Int),Si r)) (-1,Si r) (λi a=>by
  rw[e_];simp only[iS,TJ];rw[Bw (by rw[Av];omega),Ah,BK a,Ad,Ad,WD,oO,CX (by omega)];rfl) (by
  rw[e_];simp only[iS];rw[B1 (by rw[Av];omega),Ag];rfl) _ rfl
def Qi(r:Bo)(H:List Jk)(i:Int)(j:Int):List Jk×Int×List UInt8×Int×Int×Int×Bool×List UInt8×Int×Int×Int×Int×Int×Int:=(H,(r.1,(r.2.1.1,(r.2.1.2.1.1,(r.2.1.2.2.1.1,(r.2.1.2.2.2.1,(r.2.1.2.2.2.2,(r.2.2.1,(r.2.2.2.1,(r.2.2.2.2.1,(r.2.2.2.2.2.1,(r.2.2.2.2.2.2,(i,j)))))))))))))
def fj(r:Bo)(H:List Jk)(i:Int):List Jk×Int×List UInt8×Int×Int×Int×Bool×List UInt8×Int×Int×Int×Int×Int:=(H,(r.1,(r.2.1.1,(r.2.1.2.1.1,(r.2.1.2.2.1.1,(r.2.1.2.2.2.1,(r.2.1.2.2.2.2,(r.2.2.1,(r.2.2.2.1,(r.2.2.2.2.1,(r.2.2.2.2.2.1,(r.2.2.2.2.2.2,i))))))))))))
def Xq(l:List A8)(a:List UInt8)(H:List Jk)(i j:Nat):Prop:=H.length=l.length/\i<j/\j<=l.length/\i=(HZ (l.take j) a).length/\H.take i=(HZ (l.take j) a).map Cp/\∀k,j<=k->H[k]?= (l.map Cp)[k]?
def y8{l:List A8}{r:Bo}{H:List Jk}{i j:Nat}(z:l.length<=1048576)(h:Xq l r.2.2.1 H i j)(o:j<l.length):
  ∃(m:List Jk) (p:Nat),US (l.map Cp,r) (Qi r H (i:Int) (j:Int))=some (.inl (Qi r m (p:Int) ((j+1:Nat):Int)))/\Xq l r.2.2.1 m p (j+1):=by
 obtain⟨n,x,y,c,d,f⟩:=h;have b:H[j]?= some (Cp l[j]):=by rw[f j (AE _),CQ,BW o];rfl
 have g:H[i]?= some (H[i]'(by omega)):=BW (by omega);have a:l.take (j+1)=l.take j++[l[j]]:=I8 o;have q:Ik (Cp l[j]).2.1.2=true:=rfl;have s:Ik (Cp l[j]).2.2.1.2=true:=rfl;rw[US];simp only[Qi,TJ];rw[Bw (by rw[Av];omega),Ah,Q0,b,Ad,q,s,AY,AY,Ad,WD];have t:(Cp l[j]).1=l[j].1:=rfl;rw[t];cases e:(l[j].1==r.2.2.1) with
 |true=>
  refine⟨H,i, ?_,n,by omega,by omega, ?_, ?_,λk w=>f k (by omega)⟩
  .rw[Bf,Ag,A4,CX (by omega)]
  .rw[a];simp only[HZ,RS]at c ⊢;simp[HF,e];exact c
  rw[a];simp only[HZ,RS]at d ⊢;rw[d];simp[HF,e]
 |false=>
  refine⟨(H.set i (Cp l[j])).set j (OD l[j]),i+1, ?_,by simp[n],by omega,by omega, ?_, ?_,λk w=>?_⟩
  .have u:Wc i j=true:=by simp[Wc];omega
   rw[B2,Ah,Q0,g,Ad];simp only[Gv,u,AY,VH,b,Ad,Zkf,A4,BS,CX (show j<9223372036854775807 by omega),CX (show i<9223372036854775807 by omega)];rfl
  .rw[a];simp only[HZ,RS]at c ⊢;simp[HF,e];exact c
  .have v:(H.set i (Cp l[j])).take (i+1)=H.take i++[Cp l[j]]:=by
    rw[I8 (by rw[U3];omega),UJ (AE i),List.getElem_set_self]
   rw[UJ (by omega),v,a];simp only[HZ,RS]at d ⊢;rw[d];simp[HF,e]
  rw[MJ (by omega),MJ (by omega)];exact f k (by omega)
def yW(H:List Jk)(L:List A8)(i n:Nat)(a:i<=H.length)(h:H.take i=L.map Cp)(z:Jk):Ge Mr J1 (BA (i-0) (Ax (BA i H) (GX n z)))=some L:=by
 have e:BA (i-0) (Ax (BA i H) (GX n z))=L.map Cp:=by
  simp only[BA,Ax,M8];rw[List.take_append_of_le_length (by simp;omega),mg,Nat.min_self,h]
 rw[e,Z9]
def Zhx{l : List A8}{r : Bo}(v : l.length ≤ 1048576) : Uz (l.map Cp, r) = some (HZ l r.2.2.1, Si r) := by
  rw[Uz];simp only;rw[Z9, Ad, Zh8 v, Ad];cases d : l.findIdx? (λx => x.1 == r.2.2.1) with
  |none=>
    simp only[LM, Ah, Ad];rw[Y1] at d;have : HZ l r.2.2.1 = l := UN.2 λx m => by simp[HF, d x m]
    rw[this]
  |some k=>
    rw[Y0] at d;obtain ⟨G, f, g⟩ := d;simp only;rw[E7 (by omega), Ag];have a : HZ (l.take (k + 1)) r.2.2.1 = l.take k := by
      rw[I8 G];unfold HZ;rw[RS];have D : (l.take k).filter (HF r.2.2.1) = l.take k := UN.2 λx m => by
        obtain ⟨j, F, rfl⟩ := MI m;rw[EF] at F;have := g j (by omega);rw[dy];simp only[HF];simpa using this
      have E : ([l[k]] : List A8).filter (HF r.2.2.1) = [] := by simp[HF, f]
      rw[D, E, AB]
    obtain ⟨J, K, i, H, rfl, L⟩ := IO (step := US (l.map Cp, r)) (λn s => ∃ H i, s = Qi r H ((i : Nat) : Int) ((k + 1 + n : Nat) : Int) ∧ Xq l r.2.2.1 H i (k + 1 + n)) (l.length - (k + 1)) (λo => ∃ i H, o = .inl (fj r H ((i : Nat) : Int)) ∧ Xq l r.2.2.1 H i l.length)
      (fun n s P h => by
        obtain ⟨H, i, rfl, b⟩ := h;obtain ⟨w, I, q, t⟩ := y8 v b (by omega);exact .inl ⟨_, q, w, I, by rw[show k + 1 + (n + 1) = k + 1 + n + 1 by omega], by rw[show k + 1 + (n + 1) = k + 1 + n + 1 by omega]; exact t⟩)
      (fun s h => by
        obtain ⟨H, i, rfl, b⟩ := h;have e : k + 1 + (l.length - (k + 1)) = l.length := by omega
        rw[e] at b ⊢;refine ⟨.inl (fj r H (i : Int)), ?_, i, H, rfl, b⟩;rw[US];simp only[Qi];rw[B1 (by rw[Av, b.1]; omega), Ag];rfl)
      (Qi r (l.map Cp) ((k : Nat) : Int) ((k + 1 + 0 : Nat) : Int)) ⟨_, _, rfl, by simp, by omega, by omega, by rw[AL, a]; simp; omega, by rw[AL, a, Fp], λ_ _ => rfl⟩
    have c := K;simp only[Qi, AL] at c;simp only[Si];rw[CX (by omega), c, A4];obtain ⟨q, t, M, N, u, O⟩ := L;simp only[fj];have y : De (i : Int) (Am H) (Am H) = true := by simp[De, Am]; omega
    have A : Hq (A9 (i : Int) + (A9 (Am H) - A9 (i : Int))) H.length = true := by
      rw[Av, Gv, Gv]; simp[Hq]; omega
    have B : ∀ z : Jk, (Ax (BA (A9 (i : Int)) H) (GX (A9 (H.length : Int) - A9 (i : Int)) z)).length = H.length := λz => by
      rw[Gv, Gv]; simp[Ax, BA, GX]; omega
    have p : De 0 (i : Int) (Am H) = true := by simp[De, Am]; omega
    have C : IJ 0 (A9 (i : Int) - 0) H.length = true := by rw[Gv]; simp[IJ]; omega
    rw[Jd] at u;rw[y, AY, A, AY];simp only[Av, B];rw[Av] at p;rw[p, AY, C, AY];simp only[Gv];rw[yW H (HZ l r.2.2.1) i _ (by omega) u, Ad]
end
end Go.Vs
